import Derived.Test.YtdchjefneblpgaaGreatP18
set_option linter.unusedVariables false
set_option linter.unusedSimpArgs false
namespace Go.Proofs.YtdchjefneblpgaaGreat
open Go.Sx Go.RowKit
def cutAt{α:Type}(xs:List α)(k:Nat):List α:=xs.take k++xs.drop (k+1)
def F8:aB:=⟨0,⟨0,0⟩,0,0⟩
def k6(xs:List Int)(e d:Int):List Int:=xs.set e.toNat (xs.getD e.toNat 0+d)
def eY(l:bD)(r:aB):bD×Bool:=
 if jM l&&eL r&&l.eM != 0&&decide (l.eu<1000000000) then (⟨l.cap,l.queue++[r],l.eM-1,l.back,l.eu+1,l.dv⟩,true) else (l,false)
def dV(l:bD):bD×aB×Bool:=
 if jM l then match l.queue with
  | []=>(l,F8,false)
  | r::q=>(⟨l.cap,q,l.eM,l.back+1,l.eu,l.dv+1⟩,r,true)
 else (l,F8,false)
def gw(l:bD):bD×Bool:=
 if jM l&&l.back != 0 then (⟨l.cap,l.queue,l.eM+1,l.back-1,l.eu,l.dv⟩,true) else (l,false)
def fX(g:bS)(w:aQ):aQ×Bool:=
 if et g&&e7 g w then match w.b3,w.queue with
  | [],r::q=>(⟨q,(d' g w.cells r).2.1,w.bK,(d' g w.cells r).1,w.bG,w.bN,(if cw g r then w.bB.set r.bq.bh.toNat true else w.bB),w.b'⟩,true)
  | _,_=>(w,false)
 else (w,false)
def fY(g:bS)(w:aQ):aQ×Bool:=
 if et g&&e7 g w then match w.b3,w.queue,w.bK with
  | [],[],r::t=>(⟨[r],[],t,w.cells,w.bG,w.bN,w.bB,w.b'⟩,true)
  | _,_,_=>(w,false)
 else (w,false)
def iM(w:aQ)(t:List aB):aQ:=⟨w.queue,t,w.bK,w.cells,w.bG,w.bN,w.bB,w.b'⟩
def kept(w:aQ)(r:aB):aQ:=⟨w.queue++[r],w.b3,w.bK,w.cells,w.bG,w.bN,w.bB,w.b'⟩
def hN(w:aQ)(r:aB):aQ:=⟨w.queue++[r],w.b3,w.bK,w.cells,k6 w.bG r.bq.bh (-1),w.bN.set r.bq.bh.toNat true,w.bB,w.b'⟩
def ma(w:aQ)(e:Int):aQ:=⟨w.queue,w.b3,w.bK,w.cells,k6 w.bG e 1,w.bN,w.bB,w.b'⟩
def eC(w:aQ)(e:Int):aQ:=⟨w.queue,w.b3,w.bK,w.cells,w.bG,w.bN.set e.toNat false,w.bB,w.b'⟩
def told(w:aQ)(e:Int)(b:Bool):aQ:=⟨w.queue,w.b3,w.bK,w.cells,w.bG,w.bN,w.bB,w.b'++[⟨e,b⟩]⟩
def er(w:aQ)(n:cb):aQ:=if eV w n.bh then w else told w n.bh n.cw
def B6(w:aQ)(e:Int):Bool:=w.bK.any fun r=>decide (r.bq.bh<=e)
def TK(w:aQ)(e:Int):Nat:=(gH e w.queue).length+(gH e w.b3).length
def lc(w:aQ)(e:Int):Bool:=!B6 w e&&TK w e==0
def setW(c:a8)(i:Int)(x:aQ):a8:=⟨c.aC,c.ap.set i.toNat x,c.bR,c.tokens,c.news⟩
def dd(c:a8)(i:Int)(l:bD):a8:=⟨c.aC,c.ap,c.bR.set i.toNat l,c.tokens,c.news⟩
def cY(c:a8)(i:Int)(t:bT):a8:=⟨c.aC,c.ap,c.bR,c.tokens.set i.toNat t,c.news⟩
def f'(c:a8)(n:List cb):a8:=⟨c.aC,c.ap,c.bR,c.tokens,n⟩
def cp(c:a8)(i:Int):Option aQ:=if 0<=i then c.ap[i.toNat]? else none
def eB(c:a8)(i:Int):Option bD:=if 0<=i then c.bR[i.toNat]? else none
def g'(c:a8)(i:Int):Option bT:=if 0<=i then c.tokens[i.toNat]? else none
def dR(g:bS)(a b:Int):Int:=if ar a 0 (g.ap-1)&&ar b 0 (g.ap-1) then a*g.ap+b else -1
def mb(c:a8)(w:Int):a8×Bool:=
 if cK c then match cp c w with
  | some x=>(setW c w (fX c.aC x).1,(fX c.aC x).2)
  | none=>(c,false)
 else (c,false)
def mc(c:a8)(w:Int):a8×Bool:=
 if cK c then match cp c w with
  | some x=>(setW c w (fY c.aC x).1,(fY c.aC x).2)
  | none=>(c,false)
 else (c,false)
def qz(c:a8)(w:Int)(x:aQ)(r:aB)(t:List aB)(o:Int):a8×Bool:=
 if o=w then (setW c w (kept (iM x t) r),true)
 else match eB c (dR c.aC w o) with
  | some l=>if (eY l r).2 then (setW (dd c (dR c.aC w o) (eY l r).1) w (ma (iM x t) r.bq.bh),true) else (c,false)
  | none=>(c,false)
def lG(c:a8)(w:Int):a8×Bool:=
 if cK c then match cp c w with
  | some x=>match x.b3 with
   | r::t=>qz c w x r t (eh r.key c.aC.ap)
   | []=>(c,false)
  | none=>(c,false)
 else (c,false)
def lH(c:a8)(a b:Int):a8×Bool:=
 if cK c&&a != b then match eB c (dR c.aC a b),cp c b with
  | some l,some x=>if (dV l).2.2 then (setW (dd c (dR c.aC a b) (dV l).1) b (hN x (dV l).2.1),true) else (c,false)
  | _,_=>(c,false)
 else (c,false)
def lf(c:a8)(a b:Int):a8×Bool:=
 if cK c&&a != b then match eB c (dR c.aC a b) with
  | some l=>(dd c (dR c.aC a b) (gw l).1,(gw l).2)
  | none=>(c,false)
 else (c,false)
def hn(n:Nat)(e:Int)(b:Bool):List cb:=(List.range n).map fun k:Nat=>⟨(k:Int)+1,e,b⟩
def ev(c:a8)(e:Int)(t:bT)(x:aQ):a8×Bool:=
 if lc x e then
  if !t.going then (setW (cY c e ⟨true,(c.ap.length:Int)-1,0,false,x.bB.getD e.toNat false⟩) t.place (eC x e),true)
  else if 0<t.place then
   if ar (t.sum+x.bG.getD e.toNat 0) (-1000000) 1000000 then
    (setW (cY c e ⟨true,t.place-1,t.sum+x.bG.getD e.toNat 0,t.bN||x.bN.getD e.toNat false,t.cw||x.bB.getD e.toNat false⟩) t.place (eC x e),true)
   else (c,false)
  else if !t.bN&&!x.bN.getD e.toNat false&&t.sum+x.bG.getD e.toNat 0==0 then
   (f' (setW (cY c e ⟨false,t.place,t.sum,t.bN,t.cw⟩) 0 (told x e (t.cw||x.bB.getD e.toNat false))) (c.news++hn (c.ap.length-1) e (t.cw||x.bB.getD e.toNat false)),true)
  else (cY c e ⟨false,t.place,t.sum,t.bN,t.cw⟩,true)
 else (c,false)
def kV(c:a8)(e:Int):a8×Bool:=
 if cK c&&ar e 0 3 then match cp c 0,g' c e with
  | some cR,some t=>if eV cR e then (c,false) else match cp c t.place with
   | some x=>ev c e t x
   | none=>(c,false)
  | _,_=>(c,false)
 else (c,false)
def lI(c:a8)(w:Int):a8×Bool:=
 match c.news.findIdx? (fun n=>n.dest==w) with
 | some k=>if cK c then match c.news[k]?,cp c w with
   | some n,some x=>(f' (setW c w (er x n)) (cutAt c.news k),true)
   | _,_=>(c,false)
  else (c,false)
 | none=>(c,false)
def dA(c:a8)(p:cP):a8×Bool:=
 if p.kind=1 then mb c p.a else if p.kind=2 then mc c p.a else if p.kind=3 then lG c p.a
 else if p.kind=4 then lH c p.a p.b else if p.kind=5 then lf c p.a p.b else if p.kind=6 then kV c p.a
 else if p.kind=7 then lI c p.a else (c,false)
end Go.Proofs.YtdchjefneblpgaaGreat
namespace Go.Proofs.YtdchjefneblpgaaGreat
open Go.Sx Go.RowKit
section
variable {α : Type}
theorem Lt{p:α->Bool}{xs:List α}{i:Nat}{x:α}(h:xs.any p=false)(hi:i<xs.length):(xs.set i x).any p=p x:=by
 cases aa:p x with
 | true=>exact nd.2 ⟨x,List.mem_iff_getElem.2 ⟨i,by simpa using hi,by simp⟩,aa⟩
 | false=>
  rw[fh]at h ⊢;intro a ae;rcases hb ae with h1 | rfl
  ·exact h a h1
  simp[aa]
theorem TL{p:Nat->α->Bool}{x:α}:∀{xs:List α} {k i:Nat},anyI p k xs=false->i<xs.length->anyI p k (xs.set i x)=p (k+i) x
 | [],_,_,_,h=>by simp at h
 | a::xs,k,0,h,_=>by
  simp only[anyI,fB]at h;simp only[List.set_cons_zero,anyI,h.2,Bool.or_false,m']
 | a::xs,k,i+1,h,hi=>by
  simp only[anyI,fB]at h;simp only[List.set_cons_succ,anyI,h.1,iU];rw[TL h.2 (by simpa using hi),show k+1+i=k+(i+1) by omega]
theorem zg{p:Nat->α->Bool}{xs:List α}(h:∀i a,xs[i]?=some a->p i a=false):anyI p 0 xs=false:=by
 cases aa:anyI p 0 xs with
 | false=>rfl
 | true=>
  obtain⟨i,a,h1,U,_⟩:=LH aa;rw[dG,h i a h1]at U;cases U
theorem Ew{p:Nat->α->Bool}{xs:List α}(h:anyI p 0 xs=false){i:Nat}{a:α}(ae:xs[i]?=some a):p i a=false:=by
 have:=BA h i a ae;rwa[dG]at this
end
variable{c:a8}
theorem fO:cK c=true<->et c.aC=true/\(c.ap.length:Int)=c.aC.ap/\(c.bR.length:Int)=c.aC.ap*c.aC.ap/\c.tokens.length=4/\(c.ap.any fun w=>!e7 c.aC w)=false/\anyI (jN c.aC) 0 c.bR=false/\c.tokens.any (kS c.aC.ap)=false/\c.news.any (kU c.aC.ap)=false:=by
 simp only[cK,cm,fP,ed]
variable{i:Int}{x:aQ}
theorem eJ(h:cp c i=some x):0<=i/\i.toNat<c.ap.length/\c.ap[i.toNat]?=some x:=by
 unfold cp at h;split at h
 ·exact⟨‹_›,aP h,h⟩
 cases h
theorem ij{x:bD}(h:eB c i=some x):0<=i/\i.toNat<c.bR.length/\c.bR[i.toNat]?=some x:=by
 unfold eB at h;split at h
 ·exact⟨‹_›,aP h,h⟩
 cases h
theorem xn{x:bT}(h:g' c i=some x):0<=i/\i.toNat<c.tokens.length/\c.tokens[i.toNat]?=some x:=by
 unfold g' at h;split at h
 ·exact⟨‹_›,aP h,h⟩
 cases h
theorem u1{y:aQ}(h:cK c=true)(bu:cp c i=some y):cK (setW c i x)=e7 c.aC x:=by
 obtain⟨h1,U,ax,aK,a7,bp,b6,dn⟩:=fO.1 h;have hi:=(eJ bu).2.1;simp only[cK,setW,e8,Lt a7 hi,h1,U,ax,aK,bp,b6,dn,tx,pR,tA,na,Bool.not_not]
theorem Lu{x y:bD}(h:cK c=true)(bu:eB c i=some y):cK (dd c i x)=!jN c.aC i.toNat x:=by
 obtain⟨h1,U,ax,aK,a7,bp,b6,dn⟩:=fO.1 h;have hi:=(ij bu).2.1;simp only[cK,dd,e8,TL bp hi,dG,h1,U,ax,aK,a7,b6,dn,tx,pR,tA,na]
theorem agY{x y:bT}(h:cK c=true)(bu:g' c i=some y):cK (cY c i x)=!kS c.aC.ap x:=by
 obtain⟨h1,U,ax,aK,a7,bp,b6,dn⟩:=fO.1 h;have hi:=(xn bu).2.1;simp only[cK,cY,e8,Lt b6 hi,h1,U,ax,aK,a7,bp,dn,tx,pR,tA,na]
theorem TM{x:List cb}(h:cK c=true):cK (f' c x)=!(x.any (kU c.aC.ap)):=by
 obtain⟨h1,U,ax,aK,a7,bp,b6,dn⟩:=fO.1 h;simp only[cK,f',h1,U,ax,aK,a7,bp,b6,tx,pR,na]
theorem jO(h:cK c=true)(aa:cp c i=some x):e7 c.aC x=true:=by
 have a7:=(fO.1 h).2.2.2.2.1;rw[fh]at a7;simpa using a7 x (cS (eJ aa).2.2)
theorem rV{x:bD}(h:cK c=true)(aa:eB c i=some x):jN c.aC i.toNat x=false:=
 Ew (fO.1 h).2.2.2.2.2.1 (ij aa).2.2
theorem zh{x:bT}(h:cK c=true)(aa:g' c i=some x):kS c.aC.ap x=false:=by
 have a7:=(fO.1 h).2.2.2.2.2.2.1;rw[fh]at a7;simpa using a7 x (cS (xn aa).2.2)
theorem u2(aa:cp c i=some x):setW c i x=c:=by
 obtain⟨_,U,ax⟩:=eJ aa;have:c.ap.set i.toNat x=c.ap:=by
  rw[h4 U]at ax;rw[<-eE ax];exact List.set_getElem_self U
 unfold setW;rw[this]
theorem agZ{x:bD}(aa:eB c i=some x):dd c i x=c:=by
 obtain⟨_,U,ax⟩:=ij aa;have:c.bR.set i.toNat x=c.bR:=by
  rw[h4 U]at ax;rw[<-eE ax];exact List.set_getElem_self U
 unfold dd;rw[this]
variable{g:bS}{w:aQ}
theorem hZ:e7 g w=true<->fW g w.queue=true/\fW g w.b3=true/\fW g w.bK=true/\kc w.cells=true/\w.bG.length=4/\w.bN.length=4/\w.bB.length=4/\anyI (lz w.bK) 0 w.bK=false/\w.bG.any nU=false/\anyI (l' w.b') 0 w.b'=false:=by
 simp only[e7,cm,fP,ed]
variable{r:aB}
theorem qA{q:List aB}:fW g (r::q)=true<->jw g r=false/\fW g q=true:=by
 simp only[fW,vz,fP,fB]
theorem Lv{q:List aB}:fW g (q++[r])=true<->fW g q=true/\jw g r=false:=by
 simp only[fW,List.any_append,vz,List.any_nil,Bool.or_false,fP,fB]
theorem ag0{t:List aB}(h:anyI (lz (r::t)) 0 (r::t)=false):anyI (lz t) 0 t=false:=by
 refine zg fun i a ae=>?_
 have k:=Ew h (i:=i+1) (a:=a) (by simpa using ae);unfold lz at k ⊢;rw[fB]at k ⊢;refine⟨k.1,?_⟩;cases i with
 | zero=>rfl
 | succ j=>simpa using k.2
theorem ais{xs:List cx}{d:cx}(h:anyI (l' xs) 0 xs=false)(h1:ar d.bh 0 3=true)(U:(xs.any fun q=>q.bh==d.bh)=false):anyI (l' (xs++[d])) 0 (xs++[d])=false:=by
 refine zg fun i a ae=>?_
 by_cases hi:i<xs.length
 ·rw[C2 hi]at ae;have k:=Ew h ae;unfold l' at k ⊢;rw[O3 (by omega)];exact k
 have ag:=aP ae;simp only[jy,dK,ch]at ag;have e:i=xs.length:=by omega
 subst e;rw[zO (ei _),Nat.sub_self]at ae;obtain rfl:d=a:=by simpa using ae
 unfold l';rw[O3 (ei _),lh,h1,U];rfl
theorem ait(h:e7 g w=true)(aA:jw g r=false):e7 g (kept w r)=true:=by
 obtain⟨h1,U⟩:=hZ.1 h;exact hZ.2 ⟨Lv.2 ⟨h1,aA⟩,U⟩
theorem Lw{t:List aB}(h:e7 g w=true)(ai:w.b3=r::t):e7 g (iM w t)=true/\jw g r=false:=by
 obtain⟨h1,U,ax⟩:=hZ.1 h;rw[ai,qA]at U;exact⟨hZ.2 ⟨h1,U.2,ax⟩,U.1⟩
variable{e:Int}
theorem aiu(h:e7 g w=true):e7 g (eC w e)=true:=by
 obtain⟨h1,U,ax,aK,a7,bp,b6⟩:=hZ.1 h;exact hZ.2 ⟨h1,U,ax,aK,a7,by simp only[eC,e8];exact bp,b6⟩
theorem TN{b:Bool}(h:e7 g w=true)(he:ar e 0 3=true)(aE:eV w e=false):e7 g (told w e b)=true:=by
 obtain⟨h1,U,ax,aK,a7,bp,b6,dn,eF,dY⟩:=hZ.1 h;exact hZ.2 ⟨h1,U,ax,aK,a7,bp,b6,dn,eF,ais dY he aE⟩
theorem aiv{n:cb}(h:e7 g w=true)(he:ar n.bh 0 3=true):e7 g (er w n)=true:=by
 unfold er;cases aE:eV w n.bh with
 | true=>exact h
 | false=>exact TN h he aE
theorem TO{e d:Int}{k:Nat}(h:e7 g w=true)(hk:e.toNat=k)(aK:k<4):(k6 w.bG e d).length=4/\(k6 w.bG e d).any nU=nU (w.bG.getD e.toNat 0+d):=by
 obtain⟨h1,U,ax,_,a7,bp,b6,dn,eF,dY⟩:=hZ.1 h;exact⟨by simp only[k6,e8];exact a7,Lt eF (by omega)⟩
theorem u3{g:bS}(h:jw g r=false):0<=r.bq.bh/\r.bq.bh<=3:=by
 simp only[jw,eL,iL,ar,fB,jx,cm,cr]at h;omega
theorem aiw(h:e7 g w=true)(he:0<=e/\e<=3):e7 g (ma w e)=ar (w.bG.getD e.toNat 0+1) (-1000000) 1000000:=by
 obtain⟨cG,cg⟩:=TO (d:=1) h (e:=e) rfl (by omega);obtain⟨h1,U,ax,aK,a7,bp,b6,dn,eF,dY⟩:=hZ.1 h;simp only[e7,ma,h1,U,ax,aK,cG,bp,b6,dn,dY,cg,nU,tx,pR,tA,na,Bool.not_not]
theorem aix(h:e7 g w=true)(aA:jw g r=false):e7 g (hN w r)=ar (w.bG.getD r.bq.bh.toNat 0+-1) (-1000000) 1000000:=by
 have he:=u3 aA;obtain⟨cG,cg⟩:=TO (d:=-1) h (e:=r.bq.bh) rfl (by omega);obtain⟨h1,U,ax,aK,a7,bp,b6,dn,eF,dY⟩:=hZ.1 h;have az:=Lv.2 ⟨h1,aA⟩;simp only[e7,hN,az,U,ax,aK,cG,e8,bp,b6,dn,dY,cg,nU,tx,pR,tA,na,Bool.not_not]
theorem aiy(h:e7 g w=true):e7 g (fY g w).1=true:=by
 unfold fY;split
 ·split
  ·rename_i r t h1 U ax;obtain⟨_,_,cE,l2,kb,ot,kq,ou,sW,Jm⟩:=hZ.1 h;rw[ax]at cE ou;exact hZ.2 ⟨qA.2 ⟨(qA.1 cE).1,rfl⟩,rfl,(qA.1 cE).2,l2,kb,ot,kq,ag0 ou,sW,Jm⟩
  exact h
 exact h
theorem aiz:∀{xs:List Cell},kc xs=true->∀i a b,xs[i]?=some a->xs[i+1]?=some b->iK a b<0:=by
 intro xs h i a b h1 U;simp only[kc,fP,fh]at h;have hm:(a,b)∈xs.zip (xs.drop 1):=by
  refine cS (i:=i) ?_;rw[List.getElem?_zip_eq_some];exact⟨h1,by rw[ky,Nat.add_comm];exact U⟩
 have:=h _ hm;simp only[Ep,cr]at this;omega
def u4(a:Cell):List Int:=[a.bh,a.op,a.key,a.val]
theorem TP(a b:Cell):iK a b=pX (u4 a) (u4 b):=rfl
theorem Lx{a b c:Cell}(h1:iK a b<0)(U:iK b c<0):iK a c<0:=by
 rw[TP] at*;exact S2 (u4 a) (u4 b) (u4 c) rfl rfl h1 U
theorem aiA{a b:Cell}(h1:¬iK a b<0)(U:a≠b):iK b a<0:=by
 rw[TP] at*;refine Classical.byContradiction fun h=>U ?_
 have:=Sq (u4 a) (u4 b) rfl h1 h;simp only[u4,sb,and_true]at this;obtain⟨lK,ho,iS,tv⟩:=this;cases a;cases b;simp only[Cell.mk.injEq];exact⟨ho,lK,iS,tv⟩
theorem TQ:∀{xs:List Cell},kc xs=true->xs.Pairwise fun a b=>iK a b<0
 | [],_=>List.Pairwise.nil
 | [a],_=>List.pairwise_singleton _ a
 | a::b::xs,h=>by
  have bH:kc (b::xs)=true:=by
   simp only[kc,List.drop_succ_cons,tz,List.zip_cons_cons,vz,Bool.not_or,cm]at h ⊢;exact h.2
  have ai:=TQ bH;have ek:=aiz h 0 a b rfl rfl;refine List.Pairwise.cons (fun c ak=>?_) ai;rcases ez.1 ak with rfl | ak
  ·exact ek
  exact Lx ek ((List.pairwise_cons.1 ai).1 c ak)
variable{xs:List Cell}
theorem TR(h:xs.Pairwise fun a b=>iK a b<0):kc xs=true:=by
 simp only[kc,fP,fh];rintro⟨a,b⟩ hp;obtain⟨i,hi⟩:=List.getElem?_of_mem hp;obtain⟨h1,U⟩:=B5 hi;have bd:=aP U;have:=List.pairwise_iff_getElem.1 h i (i+1) (by omega) bd (by omega);rw[h4 (by omega)]at h1 U;rw[eE h1,eE U]at this;replace this:iK a b<0:=this;show ¬decide (iK a b>=0)=true;simp only[cr];omega
theorem TS(x:Cell)(h:xs.Pairwise fun a b=>iK a b<0):(mQ xs x).Pairwise fun a b=>iK a b<0:=by
 unfold mQ;split
 ·exact h
 rename_i gS;have aa:∀a∈xs,a≠x:=by
  intro a ae e;exact gS (nd.2 ⟨a,ae,by simp[e]⟩)
 have aj:∀i a,xs[i]?=some a->i<nT xs x->iK a x<0:=by
  intro i a ae hi;unfold nT at hi;cases bw:xs.findIdx? (fun a=>!decide (iK a x<0)) with
  | none=>
   rw[O2]at bw;simpa using bw a (cS ae)
  | some k=>
   rw[bw]at hi;simp only[ji]at hi;rw[zN]at bw;obtain⟨hk,_,ax⟩:=bw;have:=ax i hi;rw[h4 (by omega)]at ae;rw[eE ae]at this;simpa using this
 have ae:∀i a,xs[i]?=some a->nT xs x<=i->iK x a<0:=by
  intro i a ae hi;have hk:nT xs x<xs.length:=by have:=aP ae;omega
  obtain⟨b,gp⟩:=db hk;have bg:¬iK b x<0:=by
   unfold nT at gp hk;cases bw:xs.findIdx? (fun a=>!decide (iK a x<0)) with
   | none=>rw[bw]at hk;simp at hk
   | some k=>
    rw[bw]at gp;simp only[ji]at gp;rw[zN]at bw;obtain⟨rk,U,_⟩:=bw;rw[h4 rk]at gp;rw[eE gp]at U;simpa using U
  have Qy:=aiA bg (aa b (cS gp));rcases Nat.lt_or_eq_of_le hi with bL | heq
  ·have bd:=aP ae;have:=List.pairwise_iff_getElem.1 h (nT xs x) i hk bd bL;rw[h4 hk]at gp;rw[h4 bd]at ae;rw[eE gp,eE ae]at this;exact Lx Qy this
  rw[heq,ae]at gp;rw[eE gp];exact Qy
 rw[List.pairwise_append];refine⟨h.sublist (List.take_sublist _ _),List.Pairwise.cons (fun c ak=>?_) (h.sublist (List.drop_sublist _ _)),fun a HV c ak=>?_⟩
 ·obtain⟨i,hi⟩:=List.getElem?_of_mem ak;rw[ky]at hi;exact ae _ _ hi (by omega)
 obtain⟨i,hi⟩:=List.getElem?_of_mem HV;rw[kX]at hi;split at hi
 ·rename_i bL;have h1:=aj i a hi bL;rcases ez.1 ak with rfl | ak
  ·exact h1
  obtain⟨j,bd⟩:=List.getElem?_of_mem ak;rw[ky]at bd;exact Lx h1 (ae _ _ bd (by omega))
 cases hi
theorem aiB(kind:Int)(x:Cell)(h:kc xs=true):kc (c5 kind xs x).1=true:=by
 have ai:=TQ h;have h1:=TR (TS x ai);have U:=TR (TS x (ai.sublist (List.filter_sublist (p:=fun a=>!fN x a))));unfold c5;split
 ·split
  ·exact h
  exact h1
 split
 ·unfold lb;split
  ·exact h
  exact U
 exact h
theorem aiC{cs:List Cell}(r:aB)(h:kc cs=true):kc (d' g cs r).1=true:=by
 unfold d';cases gj g r.op with
 | none=>exact h
 | some x=>
  have aA:=aiB x.kind ⟨r.op,r.bq.bh,r.key,r.val⟩ h;simp only[fo];split
  ·split
   ·exact h
   split
   ·exact aA
   split
   ·exact aA
   exact aA
  exact h
theorem aiD{x:Node}{k v:Int}(aa:aL x=true)(hi:gu k v=true):gu (dy x k v).1 (dy x k v).2.1=true:=by
 have ly:=aa;simp only[aL,cm]at aa;have ae:=aa.1.1.1.1;have lX:=hi;simp only[gu,ar,cm,cr]at hi;unfold dy;rw[ly,lX,Bool.and_self,bi rfl];unfold b0 at ae;split
 ·rename_i U;rw[bi U]at ae;simp only[ar,cm,cr]at ae;have ag:0<=less (v+x.a) 999/\less (v+x.a) 999<=999:=by unfold less;split<;>omega
  simp only[gu,ar,cm,cr];omega
 rename_i U;rw[ba U]at ae;split
 ·rename_i aK;rw[ba (by omega),bi aK]at ae;simp only[ar,cm,cr]at ae;simp only[gu,ar,cm,cr];rw[Int.tmod_eq_emod_of_nonneg (by omega)];omega
 split
 ·exact lX
 exact lX
theorem aiE(h:et g=true){op:Int}{x:Node}(aR:gj g op=some x):jd g op.toNat x=false:=by
 simp only[et,cm,fP]at h;unfold gj at aR;split at aR
 ·exact Ew h.2 aR
 cases aR
theorem TT(h:et g=true){op:Int}{x:Node}(aR:gj g op=some x){s:hG}{k v:Int}(ai:iL s=true)(hi:gu k v=true):fW g (fv x s k v)=true:=by
 have aj:=aiE h aR;have aa:=Lr h aR;simp only[aL,cm]at aa;simp only[jd,fB]at aj;have he:=aj.2;rw[fh]at he;simp only[fW,fv,List.any_map,fP,fh];intro o aU;have h1:=Lq aa.2 aU;have U:=he o aU;simp only[gv,lM,not_or,cr]at U;simp only[Function.comp,jw,eL,h1,ai,hi,Bool.and_self,jj,iU,cr];omega
theorem aiF{cs:List Cell}:fW g (d' g cs r).2.1=true:=by
 unfold d';cases aR:gj g r.op with
 | none=>rfl
 | some x=>
  simp only[fo];split
  ·rename_i av;rw[cm]at av;obtain⟨av,aA⟩:=av;have eo:=aA;simp only[eL,cm]at aA;have ak:=aiD (Lr av aR) aA.2;split
   ·rfl
   split
   ·rfl
   split
   ·cases bH:(gJ r.bq).2 with
    | false=>rfl
    | true=>
     refine TT av aR ?_ ak;unfold gJ at bH ⊢;split
     ·rename_i h1;simp only[cm,iL,ar,cr]at h1 ⊢;omega
     rename_i h1;rw[ba h1]at bH;cases bH
   exact TT av aR aA.1.2 ak
  rfl
theorem aiG(h:e7 g w=true):e7 g (fX g w).1=true:=by
 unfold fX;split
 ·split
  ·rename_i r q h1 U;obtain⟨cG,cg,cE,l2,kb,ot,kq,ou,sW,Jm⟩:=hZ.1 h;rw[U,qA]at cG;refine hZ.2 ⟨cG.2,aiF,cE,aiC r l2,kb,ot,?_,ou,sW,Jm⟩;split
   ·rw[e8];exact kq
   exact kq
  exact h
 exact h
end Go.Proofs.YtdchjefneblpgaaGreat
namespace Go.Proofs.YtdchjefneblpgaaGreat
open Go.Sx Go.RowKit
variable{l:bD}
theorem oU:jM l=true<->ar l.cap 1 4=true/\ar l.eM 0 l.cap=true/\ar l.back 0 l.cap=true/\l.eM+l.back+l.queue.length=l.cap/\ar l.eu 0 1000000000=true/\0<=l.dv/\l.dv=l.eu-l.queue.length/\(l.queue.any fun r=>!eL r)=false:=by
 simp only[jM,cm,fP,ed,cr,and_assoc]
variable{g:bS}
theorem pE{i:Nat}:jN g i l=false<->jM l=true/\l.cap=g.cap/\fW g l.queue=true/\((i:Int).tdiv g.ap=(i:Int).tmod g.ap->l.queue=[]):=by
 simp only[jN,fB,jx,bne_eq_false_iff_eq,Bool.and_eq_false_imp,ed,kA];refine and_congr_right fun _=>and_congr_right fun _=>and_congr_right fun _=>imp_congr_right fun _=>?_
 cases l.queue with
 | nil=>simp
 | cons a q=>simp
variable{r:aB}
theorem aiH{i:Nat}(h:jN g i l=false)(aA:jw g r=false)(ai:(eY l r).2=true)(aE:(i:Int).tdiv g.ap≠(i:Int).tmod g.ap):jN g i (eY l r).1=false:=by
 obtain⟨h1,U,ax,aK⟩:=pE.1 h;unfold eY at ai ⊢;split
 ·rename_i ak;simp only[cm,bne_iff_ne,hc,cr]at ak;obtain⟨⟨⟨_,lx⟩,nz⟩,DV⟩:=ak;obtain⟨cG,cg,cE,l2,kb,ot,kq,ou⟩:=oU.1 h1;refine pE.2 ⟨oU.2 ⟨cG,?_,cE,?_,?_,ot,?_,?_⟩,U,Lv.2 ⟨ax,aA⟩,fun e=>(aE e).elim⟩
  ·simp only[ar,cr]at cg ⊢;omega
  ·simp only[jy,dK,ch];omega
  ·simp only[ar,cr]at kb ⊢;omega
  ·simp only[jy,dK,ch];omega
  simp only[List.any_append,ou,vz,List.any_nil,lx,jj,Bool.or_false]
 rename_i ak;rw[ba ak]at ai;cases ai
theorem Ly{i:Nat}(h:jN g i l=false)(ai:(dV l).2.2=true):jN g i (dV l).1=false/\jw g (dV l).2.1=false:=by
 obtain⟨h1,U,ax,aK⟩:=pE.1 h;obtain⟨cG,cg,cE,l2,kb,ot,kq,ou⟩:=oU.1 h1;unfold dV at ai ⊢;rw[bi h1]at ai ⊢;split
 ·rename_i az;rw[az]at ai;cases ai
 rename_i r q az;rw[az]at ax ou l2 kq aK;rw[qA]at ax;rw[vz,fB]at ou;simp only[dK]at l2 kq;refine⟨pE.2 ⟨oU.2 ⟨cG,cg,?_,?_,kb,?_,?_,ou.2⟩,U,ax.2,fun e=>absurd (aK e) (by simp)⟩,ax.1⟩
 ·simp only[ar,cr]at cg cE ⊢;omega
 ·dsimp only;omega
 ·dsimp only;omega
 dsimp only;omega
theorem aiI{i:Nat}(h:jN g i l=false):jN g i (gw l).1=false:=by
 obtain⟨h1,U,ax,aK⟩:=pE.1 h;obtain⟨cG,cg,cE,l2,kb,ot,kq,ou⟩:=oU.1 h1;unfold gw;split
 ·rename_i ak;simp only[cm,bne_iff_ne,hc]at ak;refine pE.2 ⟨oU.2 ⟨cG,?_,?_,?_,kb,ot,kq,ou⟩,U,ax,aK⟩
  ·simp only[ar,cr]at cg cE ⊢;omega
  ·simp only[ar,cr]at cg cE ⊢;omega
  dsimp only;omega
 exact h
theorem xo{a b:Int}(aR:1<=g.ap/\g.ap<=4)(ae:ar a 0 (g.ap-1)=true)(aj:ar b 0 (g.ap-1)=true):
  dR g a b=a*g.ap+b/\0<=a*g.ap+b/\a*g.ap+b<g.ap*g.ap/\(a*g.ap+b).tdiv g.ap=a/\(a*g.ap+b).tmod g.ap=b:=by
 have e:dR g a b=a*g.ap+b:=by unfold dR;rw[ae,aj];rfl
 simp only[ar,cr]at ae aj;generalize g.ap=n at*;have bg:0<=a*n+b:=by have:=Int.mul_nonneg ae.1 (show 0<=n by omega);omega
 rw[Int.tdiv_eq_ediv_of_nonneg bg,Int.tmod_eq_emod_of_nonneg bg];have wb:n=1\/n=2\/n=3\/n=4:=by omega
 refine⟨e,bg,?_⟩;rcases wb with rfl | rfl | rfl | rfl<;>omega
variable{b:Int}
theorem zi{a:Int}(h:(ar a 0 (g.ap-1)&&ar b 0 (g.ap-1))=false):dR g a b=-1:=by
 unfold dR;rw[h];rfl
variable{n:Int}
theorem zj(key:Int)(aR:1<=n):ar (eh key n) 0 (n-1)=true:=by
 have h1:=Li key n (by omega);have U:=Int.tmod_lt_of_pos key (show 0<n by omega);unfold eh;rw[ba (by omega)];simp only[ar,cr];split<;>omega
variable{c:a8}
theorem FG(h:cK c=true){a:Int}(ae:ar a 0 (c.aC.ap-1)=true)(aj:ar b 0 (c.aC.ap-1)=true):∃l,eB c (dR c.aC a b)=some l:=by
 obtain⟨h1,U,ax,_⟩:=fO.1 h;obtain⟨e,bg,bL,_⟩:=xo (je h1) ae aj;rw[e];unfold eB;rw[bi bg];exact db (by omega)
variable{i:Int}
theorem B7(h:eB c i=some l):((i.toNat:Nat):Int)=i:=by have:=(ij h).1;omega
theorem pF{c:a8}{i:Int}(bg:0<=i)(h1:i<c.ap.length):∃x,cp c i=some x:=by
 unfold cp;rw[bi bg];exact db (by omega)
theorem TU(h:cK c=true){e:Int}(he:ar e 0 3=true):∃t,g' c e=some t:=by
 have aK:=(fO.1 h).2.2.2.1;simp only[ar,cr]at he;unfold g';rw[bi he.1];exact db (by omega)
variable{t:bT}
theorem rW:kS n t=false<->(0<=t.place/\t.place<=n-1)/\(t.going=false->t.place=0)/\(-1000000<=t.sum/\t.sum<=1000000):=by
 simp only[kS,ar,fB,jx,cr,Bool.and_eq_false_imp,fP,bne_eq_false_iff_eq]
theorem B8{j:Int}:cp (dd c i l) j=cp c j:=rfl
theorem B9{j:Int}:cp (cY c i t) j=cp c j:=rfl
theorem TV:(dd c i l).aC=c.aC:=rfl
theorem TW:(cY c i t).aC=c.aC:=rfl
variable{x:aQ}
theorem aiJ:(setW c i x).aC=c.aC:=rfl
theorem TX{w o:Int}{t:List aB}(h:cK c=true)(aa:cp c w=some x)(ai:x.b3=r::t)
  (aU:ar o 0 (c.aC.ap-1)=true) (ct:o≠w) (ag:eB c (dR c.aC w o)=some l) (hsend:(eY l r).2=true):
  cK (setW (dd c (dR c.aC w o) (eY l r).1) w (ma (iM x t) r.bq.bh))=ar (x.bG.getD r.bq.bh.toNat 0+1) (-1000000) 1000000:=by
 obtain⟨h1,U,_⟩:=fO.1 h;obtain⟨w0,w1,_⟩:=eJ aa;obtain⟨ok,aA⟩:=Lw (jO h aa) ai;obtain⟨e,iF,yH,QY,uo⟩:=xo (je h1) (a:=w) (b:=o) (by simp only[ar,cr];omega) aU;have cN:cK (dd c (dR c.aC w o) (eY l r).1)=true:=by
  rw[Lu h ag,aiH (rV h ag) aA hsend]
  ·rfl
  rw[B7 ag,e,QY,uo];exact fun q=>ct q.symm
 rw[u1 cN (B8.trans aa),TV,aiw ok (u3 aA)];rfl
theorem TY{w:Int}{t:List aB}(h:cK c=true)(aa:cp c w=some x)(ai:x.b3=r::t):cK (setW c w (kept (iM x t) r))=true:=by
 obtain⟨ok,aA⟩:=Lw (jO h aa) ai;rw[u1 h aa,ait ok aA]
theorem TZ{k:Int}(h:cK c=true)(ag:eB c k=some l)(aa:cp c b=some x)(bH:(dV l).2.2=true):
  cK (setW (dd c k (dV l).1) b (hN x (dV l).2.1))=ar (x.bG.getD (dV l).2.1.bq.bh.toNat 0+-1) (-1000000) 1000000:=by
 obtain⟨cG,cg⟩:=Ly (rV h ag) bH;have cN:cK (dd c k (dV l).1)=true:=by rw[Lu h ag,cG];rfl
 rw[u1 cN (B8.trans aa),TV,aix (jO h aa) cg]
theorem T0{c:a8}{w:Int}(h:cK c=true):cK (mb c w).1=true:=by
 unfold mb;rw[bi h];split
 ·rename_i x aa;rw[u1 h aa,aiG (jO h aa)]
 exact h
theorem T1{c:a8}{w:Int}(h:cK c=true):cK (mc c w).1=true:=by
 unfold mc;rw[bi h];split
 ·rename_i x aa;rw[u1 h aa,aiy (jO h aa)]
 exact h
theorem Ts{c:a8}{a b:Int}(h:cK c=true):cK (lf c a b).1=true:=by
 unfold lf;split
 ·split
  ·rename_i l ag;rw[Lu h ag,aiI (rV h ag)];rfl
  exact h
 exact h
variable{e:Int}
theorem Tt{b:Bool}{m:Nat}(hm:(m:Int)=n-1)(he:ar e 0 3=true):(hn m e b).any (kU n)=false:=by
 rw[fh];intro x aa;simp only[hn,jX,List.mem_range]at aa;obtain⟨k,hk,rfl⟩:=aa;have h1:ar ((k:Int)+1) 0 (n-1)=true:=by simp only[ar,cr];omega
 simp only[kU,h1,he,jj,Bool.or_false,oZ,not_false_eq_true]
theorem aiK{cR:aQ}(h:cK c=true)(he:ar e 0 3=true)(bH:g' c e=some t)(aa:cp c t.place=some x)(bg:cp c 0=some cR)(aE:eV cR e=false):cK (ev c e t x).1=true:=by
 obtain⟨h1,U,ax,aK,a7,bp,b6,dn⟩:=fO.1 h;have aR:=je h1;obtain⟨t1,t2,t3⟩:=rW.1 (zh h bH);have ok:=jO h aa;have XN:∀dt:bT,kS c.aC.ap dt=false->cK (cY c e dt)=true:=fun dt k=>by rw[agY h bH,k];rfl
 have both:∀dt:bT,kS c.aC.ap dt=false->cK (setW (cY c e dt) t.place (eC x e))=true:=fun dt k=>by
  rw[u1 (XN dt k) (B9.trans aa),TW,aiu ok]
 unfold ev;split
 ·split
  ·exact both _ (rW.2 ⟨by dsimp only;omega,by simp,by simp⟩)
  rename_i av;split
  ·split
   ·rename_i hp aA;simp only[ar,cr]at aA;exact both _ (rW.2 ⟨by dsimp only;omega,by simp,aA⟩)
   exact h
  rename_i hp;have bM:t.place=0:=by omega
  have QK:=XN ⟨false,t.place,t.sum,t.bN,t.cw⟩ (rW.2 ⟨t1,fun _=>bM,t3⟩);split
  ·rw[bM]at aa;have IH:cR=x:=by rw[bg]at aa;exact eE aa
   have kw:cK (setW (cY c e ⟨false,t.place,t.sum,t.bN,t.cw⟩) 0 (told x e (t.cw||x.bB.getD e.toNat false)))=true:=by
    rw[u1 QK (B9.trans aa),TW];exact TN ok he (IH▸aE)
   rw[TM kw,List.any_append];have e1:(setW (cY c e ⟨false,t.place,t.sum,t.bN,t.cw⟩) 0 (told x e (t.cw||x.bB.getD e.toNat false))).aC=c.aC:=rfl;rw[e1,dn,Tt (by omega) he];rfl
  exact QK
 exact h
theorem Tu{c:a8}{e:Int}(h:cK c=true):cK (kV c e).1=true:=by
 unfold kV;split
 ·rename_i ak;rw[cm]at ak;split
  ·rename_i cR t bg bH;split
   ·exact h
   rename_i aE;split
   ·rename_i x aa;exact aiK h ak.2 bH aa bg (by simpa using aE)
   exact h
  exact h
 exact h
theorem LA{k:Nat}{n:cb}(h:cK c=true)(aR:c.news[k]?=some n):kU c.aC.ap n=false:=by
 have dn:=(fO.1 h).2.2.2.2.2.2.2;rw[fh]at dn;simpa using dn n (cS aR)
theorem aiL{α:Type}{p:α->Bool}{xs:List α}{k:Nat}(h:xs.any p=false):(cutAt xs k).any p=false:=by
 rw[fh]at h ⊢;intro a ae;rcases hD.1 ae with ae | ae
 ·exact h a (zQ ae)
 exact h a (G7 ae)
theorem Tv{c:a8}{w:Int}(h:cK c=true):cK (lI c w).1=true:=by
 unfold lI;split
 ·rw[bi h];split
  ·rename_i n x aR aa;have aj:=LA h aR;simp only[kU,fB,jx]at aj;have kw:cK (setW c w (er x n))=true:=by rw[u1 h aa,aiv (jO h aa) aj.2]
   rw[TM kw,aiJ,aiL (fO.1 h).2.2.2.2.2.2.2];rfl
  exact h
 exact h
theorem xp{α:Type}{sz:α->Nat}{y:α}(x:α):∀{xs:List α} {i:Nat},xs[i]?=some y->eZ sz (xs.set i x)+sz y=eZ sz xs+sz x
 | [],i,h=>by simp at h
 | a::xs,0,h=>by
  obtain rfl:a=y:=by simpa using h
  simp only[eZ,List.set_cons_zero,dK,jW,nf];omega
 | a::xs,i+1,h=>by
  have:=xp (sz:=sz) x (xs:=xs) (i:=i) (by simpa using h);simp only[eZ,List.set_cons_succ,dK,jW,nf]at this ⊢;omega
theorem u5{c:a8}{x y:aQ}(h:cp c i=some y):(setW c i x).sz+y.sz=c.sz+x.sz:=by
 have:=xp (sz:=aQ.sz) x (eJ h).2.2;simp only[setW,a8.sz];omega
theorem LB{x y:bD}(h:eB c i=some y):(dd c i x).sz+y.sz=c.sz+x.sz:=by
 have:=xp (sz:=bD.sz) x (ij h).2.2;simp only[dd,a8.sz];omega
theorem FH{x:bT}:(cY c i x).sz=c.sz:=by
 simp only[cY,a8.sz,e8]
theorem Tw{c:a8}{x:List cb}:(f' c x).sz+c.news.length=c.sz+x.length:=by
 simp only[f',a8.sz];omega
theorem Tx(g:bS)(w:aQ):(fX g w).1.sz<=w.sz+2:=by
 unfold fX;split
 ·rename_i ak;rw[cm]at ak;split
  ·rename_i r q h1 U;have:=ahc ak.1 w.cells r;simp only[aQ.sz,h1,U,dK,ch];split<;>(try simp only[e8])<;>omega
  exact Nat.le_add_right _ _
 exact Nat.le_add_right _ _
theorem Ty(g:bS)(w:aQ):(fY g w).1.sz<=w.sz:=by
 unfold fY;split
 ·split
  ·rename_i r t h1 U ax;simp only[aQ.sz,h1,U,ax,dK,ch];omega
  exact ei _
 exact ei _
theorem Tz{w:aQ}{t:List aB}(h:w.b3=r::t):(iM w t).sz+1=w.sz:=by
 simp only[iM,aQ.sz,h,dK];omega
theorem aiM(w:aQ)(r:aB):(kept w r).sz=w.sz+1:=by
 simp only[kept,aQ.sz,jy,dK,ch];omega
theorem aiN(w:aQ)(e:Int):(ma w e).sz=w.sz:=by
 simp only[ma,k6,aQ.sz,e8]
theorem TA(w:aQ)(r:aB):(hN w r).sz=w.sz+1:=by
 simp only[hN,k6,aQ.sz,e8,jy,dK,ch];omega
theorem aiO(w:aQ)(e:Int):(eC w e).sz=w.sz:=by
 simp only[eC,aQ.sz,e8]
theorem TB(w:aQ)(e:Int)(b:Bool):(told w e b).sz=w.sz+1:=by
 simp only[told,aQ.sz,jy,dK,ch];omega
theorem aiP(w:aQ)(n:cb):(er w n).sz<=w.sz+1:=by
 unfold er;split
 ·omega
 rw[TB];omega
theorem U2(l:bD)(r:aB):(eY l r).1.sz<=l.sz+1:=by
 unfold eY;split<;>simp[bD.sz]
theorem U3(l:bD):(dV l).1.sz<=l.sz:=by
 unfold dV;split
 ·split
  ·exact ei _
  rename_i h;simp[bD.sz,h]
 exact ei _
theorem U4(l:bD):(gw l).1.sz=l.sz:=by
 unfold gw;split<;>rfl
theorem U5{α:Type}(xs:List α)(k:Nat):(cutAt xs k).length<=xs.length:=by
 simp only[cutAt,jy,qW,List.length_drop];omega
theorem aiQ(hw:c.ap.length<=4)(aa:cp c t.place=some x)(bg:0<=t.place):(ev c e t x).1.sz<=c.sz+4:=by
 unfold ev;have w1:∀dt,(setW (cY c e dt) t.place (eC x e)).sz+x.sz=c.sz+x.sz:=fun dt=>by
  have:=u5 (c:=cY c e dt) (x:=eC x e) (B9.trans aa);rwa[FH,aiO]at this
 split
 ·split
  ·have:=w1 ⟨true,(c.ap.length:Int)-1,0,false,x.bB.getD e.toNat false⟩;dsimp only;omega
  split
  ·split
   ·have:=w1 ⟨true,t.place-1,t.sum+x.bG.getD e.toNat 0,t.bN||x.bN.getD e.toNat false,t.cw||x.bB.getD e.toNat false⟩;dsimp only;omega
   dsimp only;omega
  rename_i hp;have bM:t.place=0:=by omega
  split
  ·rw[bM]at aa;have a:=u5 (c:=cY c e ⟨false,t.place,t.sum,t.bN,t.cw⟩) (x:=told x e (t.cw||x.bB.getD e.toNat false)) (B9.trans aa);rw[FH,TB]at a;have b:=Tw (c:=setW (cY c e ⟨false,t.place,t.sum,t.bN,t.cw⟩) 0 (told x e (t.cw||x.bB.getD e.toNat false))) (x:=c.news++hn (c.ap.length-1) e (t.cw||x.bB.getD e.toNat false));have d:(setW (cY c e ⟨false,t.place,t.sum,t.bN,t.cw⟩) 0 (told x e (t.cw||x.bB.getD e.toNat false))).news=c.news:=rfl;rw[d]at b;simp only[jy,hn,bA,vA]at b;dsimp only;simp only[hn];omega
  dsimp only;rw[FH];omega
 dsimp only;omega
theorem U6(h:cK c=true):c.ap.length<=4:=by
 obtain⟨h1,U,_⟩:=fO.1 h;have:=je h1;omega
theorem aiR(c:a8)(p:cP):(dA c p).1.sz<=c.sz+4:=by
 have dC:c.sz<=c.sz+4:=by omega
 unfold dA;split
 ·unfold mb;split
  ·split
   ·rename_i x aa;have:=u5 (x:=(fX c.aC x).1) aa;have:=Tx c.aC x;dsimp only;omega
   exact dC
  exact dC
 split
 ·unfold mc;split
  ·split
   ·rename_i x aa;have:=u5 (x:=(fY c.aC x).1) aa;have:=Ty c.aC x;dsimp only;omega
   exact dC
  exact dC
 split
 ·unfold lG;split
  ·split
   ·rename_i x aa;split
    ·rename_i r t ai;have hu:=Tz ai;unfold qz;split
     ·have:=u5 (x:=kept (iM x t) r) aa;rw[aiM]at this;dsimp only;omega
     split
     ·rename_i l ag;split
      ·have a:=LB (x:=(eY l r).1) ag;have b:=u5 (c:=dd c (dR c.aC p.a (eh r.key c.aC.ap)) (eY l r).1) (x:=ma (iM x t) r.bq.bh) (B8.trans aa);rw[aiN]at b;have:=U2 l r;dsimp only;omega
      exact dC
     exact dC
    exact dC
   exact dC
  exact dC
 split
 ·unfold lH;split
  ·split
   ·rename_i l x ag aa;split
    ·have a:=LB (x:=(dV l).1) ag;have b:=u5 (c:=dd c (dR c.aC p.a p.b) (dV l).1) (x:=hN x (dV l).2.1) (B8.trans aa);rw[TA]at b;have:=U3 l;dsimp only;omega
    exact dC
   exact dC
  exact dC
 split
 ·unfold lf;split
  ·split
   ·rename_i l ag;have a:=LB (x:=(gw l).1) ag;have:=U4 l;dsimp only;omega
   exact dC
  exact dC
 split
 ·unfold kV;split
  ·rename_i ak;rw[cm]at ak;split
   ·rename_i cR t bg bH;split
    ·exact dC
    split
    ·rename_i x aa;exact aiQ (U6 ak.1) aa (eJ aa).1
    exact dC
   exact dC
  exact dC
 split
 ·unfold lI;split
  ·rename_i k hk;split
   ·split
    ·rename_i n x aR aa;have a:=u5 (x:=er x n) aa;have b:=Tw (c:=setW c p.a (er x n)) (x:=cutAt c.news k);have d:(setW c p.a (er x n)).news=c.news:=rfl;rw[d]at b;have:=aiP x n;have:=U5 c.news k;dsimp only;omega
    exact dC
   exact dC
  exact dC
 exact dC
end Go.Proofs.YtdchjefneblpgaaGreat
namespace Go.Proofs.YtdchjefneblpgaaGreat
open Go.Sx Go.RowKit
theorem U7(l:bD)(r:aB)(h:l.dv<=9223372036854775807):(eY l r).1.dv<=9223372036854775807:=by
 unfold eY;split<;>exact h
theorem U8(l:bD)(h:l.dv<=9223372036854775807):(gw l).1.dv<=9223372036854775807:=by
 unfold gw;split<;>exact h
theorem U9(l:bD)(h:l.dv<=9223372036854775807):(dV l).1.dv<=9223372036854775807:=by
 unfold dV;split
 ·rename_i hk;obtain⟨_,_,_,_,kb,_,kq,_⟩:=oU.1 hk;simp only[ar,cr]at kb;split
  ·exact h
  dsimp only;omega
 exact h
theorem hS.dd{c:a8}{i:Int}{l:bD}(h:hS c)(ag:l.dv<=9223372036854775807):hS (dd c i l):=by
 intro x aa;rcases hb aa with h1 | rfl
 ·exact h x h1
 exact ag
variable{c:a8}
theorem hS.at{i:Int}{x:bD}(h:eB c i=some x)(hw:hS c):x.dv<=9223372036854775807:=hw _ (cS (ij h).2.2)
structure n3 (c d:a8):Prop where
 aC:d.aC=c.aC
 dv:hS c->hS d
 vr:d.ap.length=c.ap.length
theorem n3.rfl:n3 c c:=⟨Eq.refl _,id,Eq.refl _⟩
theorem n3.bR{d:a8}(h1:d.aC=c.aC)(U:d.bR=c.bR)(ax:d.ap.length=c.ap.length:=by simp[setW,f',cY,dd,told,eC]):n3 c d:=⟨h1,fun h x aa=>h x (U▸aa),ax⟩
theorem ah1(c:a8)(e:Int)(t:bT)(x:aQ):n3 c (ev c e t x).1:=by
 unfold ev;split
 ·split
  ·exact .bR rfl rfl
  split
  ·split
   ·exact .bR rfl rfl
   exact .rfl
  split
  ·exact .bR rfl rfl
  exact .bR rfl rfl
 exact .rfl
theorem K2(c:a8)(p:cP):n3 c (dA c p).1:=by
 unfold dA;split
 ·unfold mb;split
  ·split
   ·exact .bR rfl rfl
   exact .rfl
  exact .rfl
 split
 ·unfold mc;split
  ·split
   ·exact .bR rfl rfl
   exact .rfl
  exact .rfl
 split
 ·unfold lG;split
  ·split
   ·split
    ·unfold qz;split
     ·exact .bR rfl rfl
     split
     ·rename_i l ag;split
      ·exact⟨rfl,fun h=>hS.dd h (U7 l _ (hS.at ag h)),by simp[setW,dd]⟩
      exact .rfl
     exact .rfl
    exact .rfl
   exact .rfl
  exact .rfl
 split
 ·unfold lH;split
  ·split
   ·rename_i l x ag aa;split
    ·exact⟨rfl,fun h=>hS.dd h (U9 l (hS.at ag h)),by simp[setW,dd]⟩
    exact .rfl
   exact .rfl
  exact .rfl
 split
 ·unfold lf;split
  ·split
   ·rename_i l ag;exact⟨rfl,fun h=>hS.dd h (U8 l (hS.at ag h)),by simp[setW,dd]⟩
   exact .rfl
  exact .rfl
 split
 ·unfold kV;split
  ·split
   ·split
    ·exact .rfl
    split
    ·exact ah1 c _ _ _
    exact .rfl
   exact .rfl
  exact .rfl
 split
 ·unfold lI;split
  ·split
   ·split
    ·exact .bR rfl rfl
    exact .rfl
   exact .rfl
  exact .rfl
 exact .rfl
theorem B'{α:Type}{f:α->List D}{xs:List α}{a:α}:(xs++[a]).map f=xs.map f++[f a]:=by simp
def dc:a8->List cP->a8×List Bool
 | c,[]=>(c,[])
 | c,p::l=>((dc (dA c p).1 l).1,(dA c p).2::(dc (dA c p).1 l).2)
theorem U'(p:cP):∀(l:List cP) (c:a8),dc c (l++[p])=((dA (dc c l).1 p).1,(dc c l).2++[(dA (dc c l).1 p).2])
 | [],c=>rfl
 | q::l,c=>by
  have dI:=U' p l (dA c q).1;simp only[List.cons_append,dc,dI]
theorem Va{l:List cP}{i:Nat}{p:cP}(c:a8)(h:l[i]?=some p):dc c (l.take (i+1))=((dA (dc c (l.take i)).1 p).1,(dc c (l.take i)).2++[(dA (dc c (l.take i)).1 p).2]):=by
 rw[r',h,zV,U']
theorem K3:∀(l:List cP) (c:a8),(dc c l).2.length=l.length
 | [],_=>rfl
 | q::l,c=>by simp only[dc,dK,K3 l]
theorem FI:∀(l:List cP) (c:a8),(dc c l).1.sz<=c.sz+4*l.length
 | [],c=>ei _
 | q::l,c=>by
  have:=FI l (dA c q).1;have:=aiR c q;simp only[dc,dK];omega
theorem n3.trans{d e:a8}(h:n3 c d)(k:n3 d e):n3 c e:=⟨k.aC.trans h.aC,fun x=>k.dv (h.dv x),k.vr.trans h.vr⟩
theorem K4:∀(l:List cP) (c:a8),n3 c (dc c l).1
 | [],_=>.rfl
 | q::l,c=>(K2 c q).trans (K4 l _)
theorem FJ{α:Type}(i:Nat)(l:List α):(l.take i).length<=l.length:=by rw[qW];omega
theorem Vb(c:a8)(l:List cP)(i:Nat):(dc c (l.take i)).1.sz<=c.sz+4*l.length:=by
 have:=FI (l.take i) c;have:=FJ i l;omega
def mu(l:List Bool):Nat:=(l.filter id).length
theorem ah2(l:List Bool):mu l<=l.length:=r9 _ _
theorem ah3(l:List Bool)(b:Bool):mu (l++[b])=mu l+(if b then 1 else 0):=by
 cases b<;>simp[mu]
