import Derived.Test.YtdchjefneblpgaaP90
import Derived.Test.YtdchjefneblpgaaGU
set_option linter.unusedVariables false
set_option linter.unusedSimpArgs false
namespace Go.Proofs.Ytdchjefneblpgaa
open Go.Sx Go.RowKit
theorem cQ.CU{c:cQ}(h:c.wf){l:eK}(ak:l∈c.hl):l.wf:=h.Rf.2 l ak
structure GV (c:cQ):Prop where
 n:ap .i64 c.cY.bg
 l:∀l∈c.hl,ap .i64 l.cap/\l.hW<=9223372036854775807
theorem GV.of{c:cQ}(h:c.wf):GV c:=⟨h.O'.Nt,fun l ak=>⟨(cQ.CU h ak).G7,(cQ.CU h ak).Hi.2⟩⟩
def nQ(e:Int)(l:eK):Nat:=(il e l.queue).length
theorem FZ{α:Type}{f:Int->α}{xs:List Int}(h:xs.length<=8388608):IntKind.i64.wrap ((↑(xs.map f).length:Int)-1)=(xs.length:Int)-1:=by
 rw[br];exact ap.wrap ⟨by omega,by omega⟩
def sk(key bg:Int):Int:=if bg<1 then 0 else if key.tmod bg<0 then key.tmod bg+bg else key.tmod bg
end Go.Proofs.Ytdchjefneblpgaa
namespace Go.Proofs.Ytdchjefneblpgaa
open Go.Sx Go.RowKit
def aal(p:Cell×Cell):Bool:=decide (eH p.1 p.2>=0)
def MI(xs:List Cell):Bool:=!((xs.zip (xs.drop 1)).any aal)
def lD(g:bz)(r:aQ):Bool:=!c8 r||decide (r.op>=(g.nodes.length:Int))
def jt(g:bz)(xs:List aQ):Bool:=!(xs.any (lD g))
def oL(l:eK):Bool:=
 af l.cap 1 4&&af l.jY 0 l.cap&&af l.back 0 l.cap&&(l.jY+l.back+l.queue.length==l.cap)&&af l.kd 0 1000000000&&decide (0<=l.hW)&&(l.hW==l.kd-l.queue.length)&&!(l.queue.any fun r=>!c8 r)
end Go.Proofs.Ytdchjefneblpgaa
namespace Go.Proofs.Ytdchjefneblpgaa
open Go.Sx Go.RowKit
def Ii(xs:List aQ)(i:Nat)(r:aQ):Bool:=
 r.op != 0||r.bl.dE != 0||(match i with | 0=>false | j+1=>match xs[j]? with | some q=>decide (q.bl.aV>r.bl.aV) | none=>false)
def MJ(n:Int):Bool:=!af n (-1000000) 1000000
def MK(xs:List mH)(i:Nat)(d:mH):Bool:=!af d.aV 0 3||(xs.take i).any (fun q=>q.aV==d.aV)
def qK(g:bz)(w:c'):Bool:=
 jt g w.queue&&(jt g w.iq&&(jt g w.hI&&(MI w.cells&&((w.gi.length==4)&&((w.ey.length==4)&&((w.cD.length==4)&&(!anyI (Ii w.hI) 0 w.hI&&(!(w.gi.any MJ)&&!anyI (MK w.iz) 0 w.iz))))))))
end Go.Proofs.Ytdchjefneblpgaa
namespace Go.Proofs.Ytdchjefneblpgaa
open Go.Sx Go.RowKit
end Go.Proofs.Ytdchjefneblpgaa
namespace Go.Proofs.Ytdchjefneblpgaa
open Go.Sx Go.RowKit
def sl(g:bz)(i:Nat)(l:eK):Bool:=
 !oL l||((l.cap != g.cap)||(!jt g l.queue||((i:Int).tdiv g.bg==(i:Int).tmod g.bg&&decide ((l.queue.length:Int)>0))))
def wK(n:Int)(t:hc):Bool:=!af t.place 0 (n-1)||((!t.going&&t.place != 0)||!af t.sum (-1000000) 1000000)
def zJ(n:Int)(x:jd):Bool:=!af x.dest 0 (n-1)||!af x.aV 0 3
def kP(c:cQ):Bool:=
 cz c.cY&&(((c.bg.length:Int)==c.cY.bg)&&(((c.hl.length:Int)==c.cY.bg*c.cY.bg)&&((c.tokens.length==4)&&(!(c.bg.any fun w=>!qK c.cY w)&&(!(anyI (sl c.cY) 0 c.hl)&&(!(c.tokens.any (wK c.cY.bg))&&!(c.news.any (zJ c.cY.bg))))))))
theorem aam{c:cQ}(h:c.wf){l:eK}(ak:l∈c.hl):l.hW<=9223372036854775807:=by
 have:=(cQ.CU h ak).Hi;simp only[ap]at this;exact this.2
def o1(c:cQ):Prop:=∀l∈c.hl,l.hW<=9223372036854775807
theorem o1.of{c:cQ}(h:c.wf):o1 c:=fun _ ak=>aam h ak
end Go.Proofs.Ytdchjefneblpgaa
namespace Go.Proofs.Ytdchjefneblpgaa
open Go.Sx Go.RowKit
def cutAt{α:Type}(xs:List α)(k:Nat):List α:=xs.take k++xs.drop (k+1)
def Nd:aQ:=⟨0,⟨0,0⟩,0,0⟩
def yo(xs:List Int)(e d:Int):List Int:=xs.set e.toNat (xs.getD e.toNat 0+d)
def oM(l:eK)(r:aQ):eK×Bool:=
 if oL l&&c8 r&&l.jY != 0&&decide (l.kd<1000000000) then (⟨l.cap,l.queue++[r],l.jY-1,l.back,l.kd+1,l.hW⟩,true) else (l,false)
def ju(l:eK):eK×aQ×Bool:=
 if oL l then match l.queue with
  | []=>(l,Nd,false)
  | r::q=>(⟨l.cap,q,l.jY,l.back+1,l.kd,l.hW+1⟩,r,true)
 else (l,Nd,false)
def mn(l:eK):eK×Bool:=
 if oL l&&l.back != 0 then (⟨l.cap,l.queue,l.jY+1,l.back-1,l.kd,l.hW⟩,true) else (l,false)
def ML(g:bz)(w:c'):c'×Bool:=
 if cz g&&qK g w then match w.iq,w.queue with
  | [],r::q=>(⟨q,(cO g w.cells r).2.1,w.hI,(cO g w.cells r).1,w.gi,w.ey,(if dn g r then w.cD.set r.bl.aV.toNat true else w.cD),w.iz⟩,true)
  | _,_=>(w,false)
 else (w,false)
def MN(g:bz)(w:c'):c'×Bool:=
 if cz g&&qK g w then match w.iq,w.queue,w.hI with
  | [],[],r::t=>(⟨[r],[],t,w.cells,w.gi,w.ey,w.cD,w.iz⟩,true)
  | _,_,_=>(w,false)
 else (w,false)
def uq(w:c')(t:List aQ):c':=⟨w.queue,t,w.hI,w.cells,w.gi,w.ey,w.cD,w.iz⟩
def kept(w:c')(r:aQ):c':=⟨w.queue++[r],w.iq,w.hI,w.cells,w.gi,w.ey,w.cD,w.iz⟩
def ur(w:c')(r:aQ):c':=⟨w.queue++[r],w.iq,w.hI,w.cells,yo w.gi r.bl.aV (-1),w.ey.set r.bl.aV.toNat true,w.cD,w.iz⟩
def zK(w:c')(e:Int):c':=⟨w.queue,w.iq,w.hI,w.cells,yo w.gi e 1,w.ey,w.cD,w.iz⟩
def io(w:c')(e:Int):c':=⟨w.queue,w.iq,w.hI,w.cells,w.gi,w.ey.set e.toNat false,w.cD,w.iz⟩
def told(w:c')(e:Int)(b:Bool):c':=⟨w.queue,w.iq,w.hI,w.cells,w.gi,w.ey,w.cD,w.iz++[⟨e,b⟩]⟩
def n'(w:c')(n:jd):c':=if nN w n.aV then w else told w n.aV n.dn
def MO(w:c')(e:Int):Bool:=w.hI.any fun r=>decide (r.bl.aV<=e)
def MP(w:c')(e:Int):Nat:=(il e w.queue).length+(il e w.iq).length
def lE(w:c')(e:Int):Bool:=!MO w e&&MP w e==0
def setW(c:cQ)(i:Int)(x:c'):cQ:=⟨c.cY,c.bg.set i.toNat x,c.hl,c.tokens,c.news⟩
def jw(c:cQ)(i:Int)(l:eK):cQ:=⟨c.cY,c.bg,c.hl.set i.toNat l,c.tokens,c.news⟩
def iY(c:cQ)(i:Int)(t:hc):cQ:=⟨c.cY,c.bg,c.hl,c.tokens.set i.toNat t,c.news⟩
def p1(c:cQ)(n:List jd):cQ:=⟨c.cY,c.bg,c.hl,c.tokens,n⟩
def hy(c:cQ)(i:Int):Option c':=if 0<=i then c.bg[i.toNat]? else none
def nv(c:cQ)(i:Int):Option eK:=if 0<=i then c.hl[i.toNat]? else none
def k0(c:cQ)(i:Int):Option hc:=if 0<=i then c.tokens[i.toNat]? else none
def kb(g:bz)(a b:Int):Int:=if af a 0 (g.bg-1)&&af b 0 (g.bg-1) then a*g.bg+b else -1
def aan(c:cQ)(w:Int):cQ×Bool:=
 if kP c then match hy c w with
  | some x=>(setW c w (ML c.cY x).1,(ML c.cY x).2)
  | none=>(c,false)
 else (c,false)
def aao(c:cQ)(w:Int):cQ×Bool:=
 if kP c then match hy c w with
  | some x=>(setW c w (MN c.cY x).1,(MN c.cY x).2)
  | none=>(c,false)
 else (c,false)
def aap(c:cQ)(w:Int)(x:c')(r:aQ)(t:List aQ)(o:Int):cQ×Bool:=
 if o=w then (setW c w (kept (uq x t) r),true)
 else match nv c (kb c.cY w o) with
  | some l=>if (oM l r).2 then (setW (jw c (kb c.cY w o) (oM l r).1) w (zK (uq x t) r.bl.aV),true) else (c,false)
  | none=>(c,false)
def aaq(c:cQ)(w:Int):cQ×Bool:=
 if kP c then match hy c w with
  | some x=>match x.iq with
   | r::t=>aap c w x r t (sk r.key c.cY.bg)
   | []=>(c,false)
  | none=>(c,false)
 else (c,false)
def aar(c:cQ)(a b:Int):cQ×Bool:=
 if kP c&&a != b then match nv c (kb c.cY a b),hy c b with
  | some l,some x=>if (ju l).2.2 then (setW (jw c (kb c.cY a b) (ju l).1) b (ur x (ju l).2.1),true) else (c,false)
  | _,_=>(c,false)
 else (c,false)
def aas(c:cQ)(a b:Int):cQ×Bool:=
 if kP c&&a != b then match nv c (kb c.cY a b) with
  | some l=>(jw c (kb c.cY a b) (mn l).1,(mn l).2)
  | none=>(c,false)
 else (c,false)
def qL(n:Nat)(e:Int)(b:Bool):List jd:=(List.range n).map fun k:Nat=>⟨(k:Int)+1,e,b⟩
def lF(c:cQ)(e:Int)(t:hc)(x:c'):cQ×Bool:=
 if lE x e then
  if !t.going then (setW (iY c e ⟨true,(c.bg.length:Int)-1,0,false,x.cD.getD e.toNat false⟩) t.place (io x e),true)
  else if 0<t.place then
   if af (t.sum+x.gi.getD e.toNat 0) (-1000000) 1000000 then
    (setW (iY c e ⟨true,t.place-1,t.sum+x.gi.getD e.toNat 0,t.ey||x.ey.getD e.toNat false,t.dn||x.cD.getD e.toNat false⟩) t.place (io x e),true)
   else (c,false)
  else if !t.ey&&!x.ey.getD e.toNat false&&t.sum+x.gi.getD e.toNat 0==0 then
   (p1 (setW (iY c e ⟨false,t.place,t.sum,t.ey,t.dn⟩) 0 (told x e (t.dn||x.cD.getD e.toNat false))) (c.news++qL (c.bg.length-1) e (t.dn||x.cD.getD e.toNat false)),true)
  else (iY c e ⟨false,t.place,t.sum,t.ey,t.dn⟩,true)
 else (c,false)
def aat(c:cQ)(e:Int):cQ×Bool:=
 if kP c&&af e 0 3 then match hy c 0,k0 c e with
  | some ri,some t=>if nN ri e then (c,false) else match hy c t.place with
   | some x=>lF c e t x
   | none=>(c,false)
  | _,_=>(c,false)
 else (c,false)
def aau(c:cQ)(w:Int):cQ×Bool:=
 match c.news.findIdx? (fun n=>n.dest==w) with
 | some k=>if kP c then match c.news[k]?,hy c w with
   | some n,some x=>(p1 (setW c w (n' x n)) (cutAt c.news k),true)
   | _,_=>(c,false)
  else (c,false)
 | none=>(c,false)
def zZ(c:cQ)(p:n2):cQ×Bool:=
 if p.kind=1 then aan c p.a else if p.kind=2 then aao c p.a else if p.kind=3 then aaq c p.a
 else if p.kind=4 then aar c p.a p.b else if p.kind=5 then aas c p.a p.b else if p.kind=6 then aat c p.a
 else if p.kind=7 then aau c p.a else (c,false)
end Go.Proofs.Ytdchjefneblpgaa
namespace Go.Proofs.Ytdchjefneblpgaa
open Go.Sx Go.RowKit
section
variable {α : Type}
theorem LZ{p:Nat->α->Bool}{xs:List α}(h:anyI p 0 xs=false){i:Nat}{a:α}(aC:xs[i]?=some a):p i a=false:=by
 have:=ue h i a aC;rwa[cP]at this
end
variable{c:cQ}
theorem FD:kP c=true<->cz c.cY=true/\(c.bg.length:Int)=c.cY.bg/\(c.hl.length:Int)=c.cY.bg*c.cY.bg/\c.tokens.length=4/\(c.bg.any fun w=>!qK c.cY w)=false/\anyI (sl c.cY) 0 c.hl=false/\c.tokens.any (wK c.cY.bg)=false/\c.news.any (zJ c.cY.bg)=false:=by
 simp only[kP,b0,gD,fR]
variable{i:Int}
theorem pQ{x:c'}(h:hy c i=some x):0<=i/\i.toNat<c.bg.length/\c.bg[i.toNat]?=some x:=by
 unfold hy at h;split at h
 ·exact⟨‹_›,ct h,h⟩
 cases h
theorem FE{x:eK}(h:nv c i=some x):0<=i/\i.toNat<c.hl.length/\c.hl[i.toNat]?=some x:=by
 unfold nv at h;split at h
 ·exact⟨‹_›,ct h,h⟩
 cases h
theorem L0{x:hc}(h:k0 c i=some x):0<=i/\i.toNat<c.tokens.length/\c.tokens[i.toNat]?=some x:=by
 unfold k0 at h;split at h
 ·exact⟨‹_›,ct h,h⟩
 cases h
theorem FF{x:c'}(h:kP c=true)(ae:hy c i=some x):qK c.cY x=true:=by
 have a1:=(FD.1 h).2.2.2.2.1;rw[hP]at a1;simpa using a1 x (h7 (pQ ae).2.2)
theorem aav{x:eK}(h:kP c=true)(ae:nv c i=some x):sl c.cY i.toNat x=false:=
 LZ (FD.1 h).2.2.2.2.2.1 (FE ae).2.2
theorem aaw{x:hc}(h:kP c=true)(ae:k0 c i=some x):wK c.cY.bg x=false:=by
 have a1:=(FD.1 h).2.2.2.2.2.2.1;rw[hP]at a1;simpa using a1 x (h7 (L0 ae).2.2)
variable{g:bz}
theorem FG{w:c'}:qK g w=true<->jt g w.queue=true/\jt g w.iq=true/\jt g w.hI=true/\MI w.cells=true/\w.gi.length=4/\w.ey.length=4/\w.cD.length=4/\anyI (Ii w.hI) 0 w.hI=false/\w.gi.any MJ=false/\anyI (MK w.iz) 0 w.iz=false:=by
 simp only[qK,b0,gD,fR]
theorem aax{r:aQ}{q:List aQ}:jt g (r::q)=true<->lD g r=false/\jt g q=true:=by
 simp only[jt,AF,gD,jU]
theorem L1{g:bz}{r:aQ}(h:lD g r=false):0<=r.bl.aV/\r.bl.aV<=3:=by
 simp only[lD,c8,fB,af,jU,sW,b0,cF]at h;omega
def qM(a:Cell):List Int:=[a.aV,a.op,a.key,a.val]
theorem FH(a b:Cell):eH a b=k' (qM a) (qM b):=rfl
theorem FI{a b c:Cell}(J:eH a b<0)(U:eH b c<0):eH a c<0:=by
 rw[FH] at*;exact Lv (qM a) (qM b) (qM c) rfl rfl J U
theorem aay{a b:Cell}(J:¬eH a b<0)(U:a≠b):eH b a<0:=by
 rw[FH] at*;refine Classical.byContradiction fun h=>U ?_
 have:=Lw (qM a) (qM b) rfl J h;simp only[qM,oW,and_true]at this;obtain⟨jR,iu,rj,p8⟩:=this;cases a;cases b;simp only[Cell.mk.injEq];exact⟨iu,jR,rj,p8⟩
theorem L2{xs:List Cell}(x:Cell)(h:xs.Pairwise fun a b=>eH a b<0):(gf xs x).Pairwise fun a b=>eH a b<0:=by
 unfold gf;split
 ·exact h
 rename_i ih;have ae:∀a∈xs,a≠x:=by
  intro a aC e;exact ih (oY.2 ⟨a,aC,by simp[e]⟩)
 have ah:∀i a,xs[i]?=some a->i<js xs x->eH a x<0:=by
  intro i a aC hi;unfold js at hi;cases bn:xs.findIdx? (fun a=>!decide (eH a x<0)) with
  | none=>
   rw[Az]at bn;simpa using bn a (h7 aC)
  | some k=>
   rw[bn]at hi;simp only[kh]at hi;rw[uN]at bn;obtain⟨aT,_,ax⟩:=bn;have:=ax i hi;rw[iM (by omega)]at aC;rw[e0 aC]at this;simpa using this
 have aC:∀i a,xs[i]?=some a->js xs x<=i->eH x a<0:=by
  intro i a aC hi;have aT:js xs x<xs.length:=by have:=ct aC;omega
  obtain⟨b,dX⟩:=cT aT;have bX:¬eH b x<0:=by
   unfold js at dX aT;cases bn:xs.findIdx? (fun a=>!decide (eH a x<0)) with
   | none=>rw[bn]at aT;simp at aT
   | some k=>
    rw[bn]at dX;simp only[kh]at dX;rw[uN]at bn;obtain⟨l4,U,_⟩:=bn;rw[iM l4]at dX;rw[e0 dX]at U;simpa using U
  have H8:=aay bX (ae b (h7 dX));rcases Nat.lt_or_eq_of_le hi with bk | heq
  ·have aU:=ct aC;have:=List.pairwise_iff_getElem.1 h (js xs x) i aT aU bk;rw[iM aT]at dX;rw[iM aU]at aC;rw[e0 dX,e0 aC]at this;exact FI H8 this
  rw[heq,aC]at dX;rw[e0 dX];exact H8
 rw[List.pairwise_append];refine⟨h.sublist (List.take_sublist _ _),List.Pairwise.cons (fun c ai=>?_) (h.sublist (List.drop_sublist _ _)),fun a vm c ai=>?_⟩
 ·obtain⟨i,hi⟩:=List.getElem?_of_mem ai;rw[iv]at hi;exact aC _ _ hi (by omega)
 obtain⟨i,hi⟩:=List.getElem?_of_mem vm;rw[h9]at hi;split at hi
 ·rename_i bk;have J:=ah i a hi bk;rcases dj.1 ai with rfl | ai
  ·exact J
  obtain⟨j,aU⟩:=List.getElem?_of_mem ai;rw[iv]at aU;exact FI J (aC _ _ aU (by omega))
 cases hi
variable{x:Node}
theorem aaz{k v:Int}(ae:av x=true)(hi:c9 k v=true):c9 (bL x k v).1 (bL x k v).2.1=true:=by
 have vP:=ae;simp only[av,b0]at ae;have aC:=ae.1.1.1.1;have kD:=hi;simp only[c9,af,b0,cF]at hi;unfold bL;rw[vP,kD,Bool.and_self,bb rfl];unfold bh at aC;split
 ·rename_i U;rw[bb U]at aC;simp only[af,b0,cF]at aC;have ak:0<=less (v+x.a) 999/\less (v+x.a) 999<=999:=by unfold less;split<;>omega
  simp only[c9,af,b0,cF];omega
 rename_i U;rw[aZ U]at aC;split
 ·rename_i aJ;rw[aZ (by omega),bb aJ]at aC;simp only[af,b0,cF]at aC;simp only[c9,af,b0,cF];rw[Int.tmod_eq_emod_of_nonneg (by omega)];omega
 split
 ·exact kD
 exact kD
theorem aaA(h:cz g=true){op:Int}(aR:dd g op=some x):gM g op.toNat x=false:=by
 simp only[cz,b0,gD]at h;unfold dd at aR;split at aR
 ·exact LZ h.2 aR
 cases aR
theorem L3(h:cz g=true){op:Int}(aR:dd g op=some x){s:fl}{k v:Int}(ad:fB s=true)(hi:c9 k v=true):jt g (fu x s k v)=true:=by
 have ah:=aaA h aR;have ae:=yI h aR;simp only[av,b0]at ae;simp only[gM,jU]at ah;have he:=ah.2;rw[hP]at he;simp only[jt,fu,List.any_map,gD,hP];intro o aM;have J:=zd ae.2 aM;have U:=he o aM;simp only[eV,mD,not_or,cF]at U;simp only[Function.comp,lD,c8,J,ad,hi,Bool.and_self,uL,GK,cF];omega
theorem aaB{g:bz}{cs:List Cell}{r:aQ}:jt g (cO g cs r).2.1=true:=by
 unfold cO;cases aR:dd g r.op with
 | none=>rfl
 | some x=>
  simp only[cU];split
  ·rename_i ag;rw[b0]at ag;obtain⟨ag,ar⟩:=ag;have dA:=ar;simp only[c8,b0]at ar;have ai:=aaz (yI ag aR) ar.2;split
   ·rfl
   split
   ·rfl
   split
   ·cases bH:(dm r.bl).2 with
    | false=>rfl
    | true=>
     refine L3 ag aR ?_ ai;unfold dm at bH ⊢;split
     ·rename_i J;simp only[b0,fB,af,cF]at J ⊢;omega
     rename_i J;rw[aZ J]at bH;cases bH
   exact L3 ag aR ar.1.2 ai
  rfl
