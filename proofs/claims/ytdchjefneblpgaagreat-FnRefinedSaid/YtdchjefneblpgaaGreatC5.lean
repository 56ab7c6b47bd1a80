import Derived.Test.YtdchjefneblpgaaGreatGT
import Derived.Test.YtdchjefneblpgaaGreatP42
set_option linter.unusedVariables false
set_option linter.unusedSimpArgs false
namespace Go.Proofs.YtdchjefneblpgaaGreat
open Go.Sx Go.RowKit Go.Proofs.Tryz
theorem Xp{P:Program}{c:Code}{α:Type}[DecidableEq α](xs ys:List α)(ap:xs.length=ys.length)(st:Nat->aJ){e1 e2:hY}{X Y:aJ}(uQ:e1.oa≠.normal)(mJ:e2.oa≠.normal)
  (uS:∀i a b,xs[i]?=some a->ys[i]?=some b->decide (a=b)=true->fT P c (st i) .normal (st (i+1))) (A2:∀i a b,xs[i]?=some a->ys[i]?=some b->decide (a=b)=false->fT P c (st i) e1 X) (wH:fT P c (st xs.length) e2 Y):
  (xs=ys/\c5 P c (st 0) e2 Y)\/(xs≠ys/\c5 P c (st 0) e1 X):=by
 rcases Uy xs ys ap with h | ⟨i,a,b,h1,U,ax,aF⟩
 ·subst h;refine .inl ⟨rfl,fC mJ xs.length st (fun i hi=>?_) wH⟩;obtain⟨a,ak⟩:=c9 hi;exact uS i a a ak ak (by simp)
 refine .inr ⟨fun e=>by subst e;rw[h1]at U;exact ax (eW U),fC uQ i st (fun j a1=>?_) (A2 i a b h1 U (by simpa using ax))⟩;obtain⟨c,aj⟩:=c9 (xs:=xs) (i:=j) (by have:=aT h1;omega);exact uS j c c aj (by rw[<-aF j a1];exact aj) (by simp)
theorem Se{b:Bool}(h:b=true):(!b)=false:=by rw[h];rfl
theorem Sd{b:Bool}(h:b=false):(!b)=true:=by rw[h];rfl
theorem u4{α β:Type}{f g:α->β}{xs ys:List α}(h:xs.length=ys.length):(((xs.map f).length:Int) != ((ys.map g).length:Int))=false:=by simp[h]
theorem Gx{α β:Type}{f g:α->β}{xs ys:List α}(h:¬xs.length=ys.length):(((xs.map f).length:Int) != ((ys.map g).length:Int))=true:=by simp;omega
theorem Ob(xs ys:List aq)(ah:xs.length<=8388608):al 229 [.one (.J 5 (xs.map aq.e)),.one (.J 5 (ys.map aq.e))] [.one (B (decide (xs=ys)))]:=by
 by_cases ap:xs.length=ys.length
 ·have l:=Xp (P:=prog) (c:=(ar f229 0)) xs ys ap (fun i=>xQ (xs.map aq.e) (ys.map aq.e) i) (X:=N' false) e0 (cH 0)
   (fun i a b ak av h=>amB ⟨b5 (aT ak),bD,bK (aT ak),bE aq.e ak,bD,bK (aT av),bE aq.e av,Se ((xX a b).trans h),dj (aT ak) ah,aa⟩)
   (fun i a b ak av h=>amA ⟨b5 (aT ak),bD,bK (aT ak),bE aq.e ak,bD,bK (aT av),bE aq.e av,Sd ((xX a b).trans h),aa⟩)
   (amC ⟨dT,aa⟩)
  rcases l with⟨h,l⟩ | ⟨h,l⟩
  ·rw[dt h];exact amE ⟨u4 ap,l,aa⟩
  rw[dQ h];exact amD ⟨u4 ap,l,aa⟩
 rw[dQ (fun e=>ap (by rw[e]))];exact ak7 ⟨Gx ap,aa⟩
theorem zF{xs ys:List aq}(r:Bool)(h:decide (xs=ys)=r)(ah:xs.length<=8388608):al 229 [.one (.J 5 (xs.map aq.e)),.one (.J 5 (ys.map aq.e))] [.one (B r)]:=h▸Ob xs ys ah
theorem Nl(xs ys:List aq)(ah:xs.length<=8388608):al 226 [.one (.J 5 (xs.map aq.e)),.one (.J 5 (ys.map aq.e))] [.one (B (decide (xs=ys)))]:=by
 by_cases ap:xs.length=ys.length
 ·have l:=Xp (P:=prog) (c:=(ar f226 0)) xs ys ap (fun i=>xR (xs.map aq.e) (ys.map aq.e) i) (X:=Oa false) e0 (cH 0)
   (fun i a b ak av h=>amH ⟨b5 (aT ak),bD,bK (aT ak),bE aq.e ak,bD,bK (aT av),bE aq.e av,Se ((xX a b).trans h),dj (aT ak) ah,aa⟩)
   (fun i a b ak av h=>amG ⟨b5 (aT ak),bD,bK (aT ak),bE aq.e ak,bD,bK (aT av),bE aq.e av,Sd ((xX a b).trans h),aa⟩)
   (amI ⟨dT,aa⟩)
  rcases l with⟨h,l⟩ | ⟨h,l⟩
  ·rw[dt h];exact amK ⟨u4 ap,l,aa⟩
  rw[dQ h];exact amJ ⟨u4 ap,l,aa⟩
 rw[dQ (fun e=>ap (by rw[e]))];exact amF ⟨Gx ap,aa⟩
theorem Gy{xs ys:List aq}(r:Bool)(h:decide (xs=ys)=r)(ah:xs.length<=8388608):al 226 [.one (.J 5 (xs.map aq.e)),.one (.J 5 (ys.map aq.e))] [.one (B r)]:=h▸Nl xs ys ah
end Go.Proofs.YtdchjefneblpgaaGreat
namespace Go.Proofs.YtdchjefneblpgaaGreat
open Go.Sx Go.RowKit Go.Sort Go.Proofs.Tryz
def lJ(c:a')(p:cN):List aq:=
 if (fV c p).2 then
  (if p.kind==2 then [(fV c p).1] else match mU c p.a with | some w=>(dB c.aE w.cells (fV c p).1).2.1 | none=>[])
 else []
theorem Xq{c:a'}{p:cN}(h:(fV c p).2=true):∃w,mU c p.a=some w:=by
 unfold fV at h;split at h
 ·cases h
 exact⟨_,‹_›⟩
variable{w:aP}
theorem aP.QK(h:w.sz<=8388608):w.cells.length<=8388608:=by simp only[aP.sz]at h;omega
variable{c:a'}
theorem a'.QW(h:c.sz<=8388608):c.aE.sz<=8388608:=by simp only[a'.sz]at h;omega
theorem Nn{a:Int}(h:mU c a=some w):w∈c.az:=by
 unfold mU at h;split at h
 ·exact ft h
 cases h
theorem a'.x6(h:c.sz<=8388608)(ap:w∈c.az):w.sz<=8388608:=by
 have:=Cg (sz:=aP.sz) ap;simp only[a'.sz,fs]at h;omega
theorem Xr(c:a')(p:cN)(aj:c.sz<=8388608):al 98 [.agg c.e,.agg p.e] [.one (.J 5 ((lJ c p).map aq.e))]:=by
 have wu:=Ml c p aj;unfold lJ;have hw:=fun h=>Xq (c:=c) (p:=p) h
 generalize fV c p=x at*;obtain⟨r,b⟩:=x;cases b with
 | false=>exact amR ⟨wu,rfl,aa⟩
 | true=>
  cases hk:p.kind==2 with
  | true=>exact amS ⟨wu,rfl,hk,aa⟩
  | false=>
   obtain⟨w,h⟩:=hw rfl;obtain⟨h1,U,ax,_⟩:=FA h;have s:=MD c.aE w.cells r (a'.QW aj) (aP.QK (a'.x6 aj (Nn h)));rw[h];exact amT ⟨wu,rfl,hk,h1,U,ax,s,aa⟩
theorem Xs(c:a')(p:cN)(aj:c.sz<=8388608):al 97 [.agg c.e,.agg p.e] [.one (.J 5 ((lJ c p).map aq.e))]:=by
 have wu:=Mm c p aj;unfold lJ;have hw:=fun h=>Xq (c:=c) (p:=p) h
 generalize fV c p=x at*;obtain⟨r,b⟩:=x;cases b with
 | false=>exact amU ⟨wu,rfl,aa⟩
 | true=>
  cases hk:p.kind==2 with
  | true=>exact amV ⟨wu,rfl,hk,aa⟩
  | false=>
   obtain⟨w,h⟩:=hw rfl;obtain⟨h1,U,ax,_⟩:=FA h;have s:=U8 c.aE w.cells r (a'.QW aj) (aP.QK (a'.x6 aj (Nn h)));rw[h];exact amW ⟨wu,rfl,hk,h1,U,ax,s,aa⟩
theorem Xt(c:a')(p:cN):(lJ c p).length<=2:=by
 unfold lJ;split
 ·split
  ·simp
  split
  ·rename_i w h;by_cases ay:eM c.aE=true
   ·exact (U' ay w.cells _).2
   have e:(dB c.aE w.cells (fV c p).1).2.1=[]:=by
    unfold dB;split
    ·unfold dX;simp[ay]
    rfl
   rw[e];simp
  simp
 simp
def qE(w:Int)(k i:Nat)(x:aP):List aq:=if (i:Int)=w/\k<=x.bO.length then x.bO.drop k else x.bO
def rm(b:a')(w:Int)(k i:Nat)(x:aP):Bool:=match b.az[i]? with | some y=>!decide (qE w k i x=y.bO) | none=>false
def oF(a b:a')(w:Int)(k:Nat):Bool:=decide (a.az.length=b.az.length)&&!anyI (rm b w k) 0 a.az
theorem Xu(w:Int)(i:Nat)(x:aP):qE w 0 i x=x.bO:=by unfold qE;split<;>simp
theorem anj(a b:a')(v w:Int):oF a b v 0=oF a b w 0:=by
 have:rm b v 0=rm b w 0:=by funext i x;simp only[rm,Xu]
 unfold oF;rw[this]
theorem Gz{w:Int}{k i:Nat}{x:aP}(h:x.sz<=8388608):(qE w k i x).length<=8388608:=by
 have:x.bO.length<=8388608:=by simp only[aP.sz]at h;omega
 unfold qE;split
 ·simp;omega
 exact this
theorem GC(xs:List aq)(k:Nat):List.take ((xs.map aq.e).length-(((some (k:Int)).getD 0)).toNat) (List.drop (((some (k:Int)).getD 0)).toNat (xs.map aq.e))=(xs.drop k).map aq.e:=by
 simp only[il,k7];rw[sS (by simp),List.map_drop]
theorem CM(h:c.sz<=8388608):c.az.length<=8388608:=by simp only[a'.sz,fs]at h;omega
theorem Xv(a b:a')(w:Int)(k:Nat)(ak:a.sz<=8388608)(hk:k<=1):al 230 [.agg a.e,.agg b.e,.one (I w),.one (I k)] [.one (B (oF a b w k))]:=by
 unfold oF;by_cases ap:a.az.length=b.az.length
 ·rw[dt ap,oP];have l:=su (P:=prog) (c:=(ar f230 0)) a.az (rm b w k) (fun i=>pw (a.aE.nodes.map Node.e) a.aE.az a.aE.cap (a.az.map aP.e) (a.bP.map bw.e) (a.tokens.map b4.e) (a.news.map b1.e) (b.aE.nodes.map Node.e) b.aE.az b.aE.cap (b.az.map aP.e) (b.bP.map bw.e) (b.tokens.map b4.e) (b.news.map b1.e) w k i) (X:=CL false) e0 (cH 0)
   (fun i x ah h=>by
    obtain⟨y,bf⟩:=c9 (xs:=b.az) (i:=i) (by have:=aT ah;omega);have ao:=Gz (w:=w) (k:=k) (i:=i) (a'.x6 ak (eD ah));have hi:x.bO.length<=8388608:=by have:=a'.x6 ak (eD ah);simp only[aP.sz]at this;omega
    simp only[rm,bf,ln]at h;unfold qE at h ao;by_cases h1:(i:Int)=w
    ·by_cases U:k<=x.bO.length
     ·rw[bm ⟨h1,U⟩]at h ao;have c:=zF true h ao;rw[<-GC]at c;exact amZ ⟨b5 (aT ah),bD,bK (aT ah),bE aP.e ah,by simp[h1],dt (by simp only[bl];omega),by simp,by simp;omega,by simp,bD,bK (aT bf),bE aP.e bf,c,rfl,dj (aT ah) (CM ak),aa⟩
     rw[bk (fun e=>U e.2)]at h ao;exact amb ⟨b5 (aT ah),bD,bK (aT ah),bE aP.e ah,by simp[h1],dQ (by simp only[bl];omega),bD,bK (aT bf),bE aP.e bf,zF true h ao,rfl,dj (aT ah) (CM ak),aa⟩
    rw[bk (fun e=>h1 e.1)]at h ao;exact amd ⟨b5 (aT ah),bD,bK (aT ah),bE aP.e ah,by simp[h1],bD,bK (aT bf),bE aP.e bf,zF true h ao,rfl,dj (aT ah) (CM ak),aa⟩)
   (fun i x ah h=>by
    obtain⟨y,bf⟩:=c9 (xs:=b.az) (i:=i) (by have:=aT ah;omega);have ao:=Gz (w:=w) (k:=k) (i:=i) (a'.x6 ak (eD ah));simp only[rm,bf,gT]at h;unfold qE at h ao;by_cases h1:(i:Int)=w
    ·by_cases U:k<=x.bO.length
     ·rw[bm ⟨h1,U⟩]at h ao;have c:=zF false h ao;rw[<-GC]at c;exact amY ⟨b5 (aT ah),bD,bK (aT ah),bE aP.e ah,by simp[h1],dt (by simp only[bl];omega),by simp,by simp;omega,by simp,bD,bK (aT bf),bE aP.e bf,c,rfl,aa⟩
     rw[bk (fun e=>U e.2)]at h ao;exact ama ⟨b5 (aT ah),bD,bK (aT ah),bE aP.e ah,by simp[h1],dQ (by simp only[bl];omega),bD,bK (aT bf),bE aP.e bf,zF false h ao,rfl,aa⟩
    rw[bk (fun e=>h1 e.1)]at h ao;exact amc ⟨b5 (aT ah),bD,bK (aT ah),bE aP.e ah,by simp[h1],bD,bK (aT bf),bE aP.e bf,zF false h ao,rfl,aa⟩)
   (ame ⟨dT,aa⟩)
  rcases l with⟨h,l⟩ | ⟨h,l⟩
  ·rw[h];exact amg ⟨u4 ap,l,aa⟩
  rw[h];exact amf ⟨u4 ap,l,aa⟩
 rw[dQ ap,Bool.false_and];exact amX ⟨Gx ap,aa⟩
theorem Xw(a b:a')(w:Int)(k:Nat)(ak:a.sz<=8388608)(hw:∀(i:Nat) (x:aP),a.az[i]?=some x->(i:Int)=w->k<=x.bO.length):al 225 [.agg a.e,.agg b.e,.one (I w),.one (I k)] [.one (B (oF a b w k))]:=by
 unfold oF;by_cases ap:a.az.length=b.az.length
 ·rw[dt ap,oP];have l:=su (P:=prog) (c:=(ar f225 0)) a.az (rm b w k) (fun i=>sG (a.az.map aP.e) w k i (b.aE.nodes.map Node.e) b.aE.az b.aE.cap (b.az.map aP.e) (b.bP.map bw.e) (b.tokens.map b4.e) (b.news.map b1.e)) (X:=Gw false) e0 (cH 0)
   (fun i x ah h=>by
    obtain⟨y,bf⟩:=c9 (xs:=b.az) (i:=i) (by have:=aT ah;omega);have ao:=Gz (w:=w) (k:=k) (i:=i) (a'.x6 ak (eD ah));simp only[rm,bf,ln]at h;unfold qE at h ao;by_cases h1:(i:Int)=w
    ·have U:=hw i x ah h1;rw[bm ⟨h1,U⟩]at h ao;have c:=Gy true h ao;rw[<-GC]at c;exact amj ⟨b5 (aT ah),bD,bK (aT ah),bE aP.e ah,by simp[h1],by simp,by simp;omega,by simp,bD,bK (aT bf),bE aP.e bf,c,rfl,dj (aT ah) (CM ak),aa⟩
    rw[bk (fun e=>h1 e.1)]at h ao;exact aml ⟨b5 (aT ah),bD,bK (aT ah),bE aP.e ah,by simp[h1],bD,bK (aT bf),bE aP.e bf,Gy true h ao,rfl,dj (aT ah) (CM ak),aa⟩)
   (fun i x ah h=>by
    obtain⟨y,bf⟩:=c9 (xs:=b.az) (i:=i) (by have:=aT ah;omega);have ao:=Gz (w:=w) (k:=k) (i:=i) (a'.x6 ak (eD ah));simp only[rm,bf,gT]at h;unfold qE at h ao;by_cases h1:(i:Int)=w
    ·have U:=hw i x ah h1;rw[bm ⟨h1,U⟩]at h ao;have c:=Gy false h ao;rw[<-GC]at c;exact ami ⟨b5 (aT ah),bD,bK (aT ah),bE aP.e ah,by simp[h1],by simp,by simp;omega,by simp,bD,bK (aT bf),bE aP.e bf,c,rfl,aa⟩
    rw[bk (fun e=>h1 e.1)]at h ao;exact amk ⟨b5 (aT ah),bD,bK (aT ah),bE aP.e ah,by simp[h1],bD,bK (aT bf),bE aP.e bf,Gy false h ao,rfl,aa⟩)
   (amm ⟨dT,aa⟩)
  rcases l with⟨h,l⟩ | ⟨h,l⟩
  ·rw[h];exact amo ⟨u4 ap,l,aa⟩
  rw[h];exact amn ⟨u4 ap,l,aa⟩
 rw[dQ ap,Bool.false_and];exact amh ⟨Gx ap,aa⟩
def rn(xs ys:List aq):Bool:=decide (jh (ltOf gO) xs=jh (ltOf gO) ys)
theorem Xx(xs ys:List aq)(ah:xs.length<=8388608)(bf:ys.length<=8388608):al 231 [.one (.J 5 (xs.map aq.e)),.one (.J 5 (ys.map aq.e))] [.one (B (rn xs ys))]:=by
 unfold rn;by_cases ap:xs.length=ys.length
 ·exact amO ⟨by simp[ap],M9 xs ah,M9 ys bf,Ob _ _ (by rw[BQ];exact ah),aa⟩
 rw[dQ (fun e=>ap (by have:=congrArg List.length e;rwa[BQ,BQ]at this))];exact amP ⟨by simp;omega,aa⟩
theorem Xy(xs ys:List aq)(ah:xs.length<=8388608)(bf:ys.length<=8388608):al 227 [.one (.J 5 (ys.map aq.e)),.one (.J 5 (xs.map aq.e))] [.one (B (rn xs ys))]:=by
 have e:rn xs ys=decide (jh (ltOf gO) ys=jh (ltOf gO) xs):=by
  unfold rn;exact decide_eq_decide.2 ⟨Eq.symm,Eq.symm⟩
 rw[e];exact amQ ⟨M' ys bf,M' xs ah,Nl _ _ (by rw[BQ];exact bf),aa⟩
def zG(lM l6 ok bM rI rH cG pG:Bool):Int:=
 if lM&&l6 then 0 else if ok&&bM&&rI&&rH then 1 else if ok&&cG&&l6&&pG then 2 else 3
theorem ank(a b:a')(p:cN)(r:aq)(xs ys ws cr:List aq)(lM l6 ok rI rH pG:Bool)
  (fa:al 38 [.agg a.e] [.one (.J 5 (xs.map aq.e))]) (ai:al 38 [.agg b.e] [.one (.J 5 (ys.map aq.e))])
  (aC:al 229 [.one (.J 5 (xs.map aq.e)),.one (.J 5 (ys.map aq.e))] [.one (B lM)]) (eH:al 230 [.agg a.e,.agg b.e,.one (I 0),.one (I 0)] [.one (B l6)])
  (fg:al 93 [.agg a.e,.agg p.e] [.agg r.e,.one (B ok)]) (iE:(p.kind==2)=true->ok=true->al 230 [.agg a.e,.agg b.e,.one (I p.a),.one (I 1)] [.one (B rI)])
  (m1:((xs.map aq.e).length+[r.e].length)*40<=140737488355328) (m2:(xs.map aq.e).length+[r.e].length<=9223372036854775807) (m3:Flat [r.e])
  (mF:al 231 [.one (.J 5 (xs.map aq.e++[r.e])),.one (.J 5 (ys.map aq.e))] [.one (B rH)])
  (oY:al 100 [.one (.J 5 (xs.map aq.e)),.agg r.e] [.one (.J 5 (ws.map aq.e))]) (oX:al 98 [.agg a.e,.agg p.e] [.one (.J 5 (cr.map aq.e))])
  (eZ:((ws.map aq.e).length+(cr.map aq.e).length)*40<=140737488355328) (ga:(ws.map aq.e).length+(cr.map aq.e).length<=9223372036854775807) (gF:Flat (cr.map aq.e))
  (oW:al 231 [.one (.J 5 (ws.map aq.e++cr.map aq.e)),.one (.J 5 (ys.map aq.e))] [.one (B pG)]):
  al 96 [.agg a.e,.agg b.e,.agg p.e] [.one (I (zG lM l6 ok (p.kind==2) rI rH (p.kind==1) pG))]:=by
 cases lM with
 | true=>
  cases l6 with
  | true=>
   cases ok<;>exact amp ⟨fa,ai,aC,rfl,eH,rfl,aa⟩
  | false=>
   cases ok with
   | true=>
    cases dd:p.kind==2 with
    | true=>
     cases rI with
     | true=>
      cases rH with
      | true=>
       exact amq ⟨fa,ai,aC,rfl,eH,rfl,fg,rfl,dd,(iE dd rfl),rfl,m1,m2,m3,mF,rfl,aa⟩
      | false=>
       cases ck:p.kind==1 with
       | true=>
        exact amr ⟨fa,ai,aC,rfl,eH,rfl,fg,rfl,dd,(iE dd rfl),rfl,m1,m2,m3,mF,rfl,rfl,ck,eH,rfl,aa⟩
       | false=>
        exact ams ⟨fa,ai,aC,rfl,eH,rfl,fg,rfl,dd,(iE dd rfl),rfl,m1,m2,m3,mF,rfl,rfl,ck,aa⟩
     | false=>
      cases ck:p.kind==1 with
      | true=>
       exact amt ⟨fa,ai,aC,rfl,eH,rfl,fg,rfl,dd,(iE dd rfl),rfl,rfl,ck,eH,rfl,aa⟩
      | false=>
       exact amu ⟨fa,ai,aC,rfl,eH,rfl,fg,rfl,dd,(iE dd rfl),rfl,rfl,ck,aa⟩
    | false=>
     cases ck:p.kind==1 with
     | true=>
      exact amv ⟨fa,ai,aC,rfl,eH,rfl,fg,rfl,dd,rfl,ck,eH,rfl,aa⟩
     | false=>
      exact amw ⟨fa,ai,aC,rfl,eH,rfl,fg,rfl,dd,rfl,ck,aa⟩
   | false=>
    exact amx ⟨fa,ai,aC,rfl,eH,rfl,fg,rfl,rfl,aa⟩
 | false=>
  cases ok with
  | true=>
   cases dd:p.kind==2 with
   | true=>
    cases rI with
    | true=>
     cases rH with
     | true=>
      cases l6<;>exact amy ⟨fa,ai,aC,rfl,fg,rfl,dd,(iE dd rfl),rfl,m1,m2,m3,mF,rfl,aa⟩
     | false=>
      cases ck:p.kind==1 with
      | true=>
       cases l6 with
       | true=>
        cases pG with
        | true=>
         exact amz ⟨fa,ai,aC,rfl,fg,rfl,dd,(iE dd rfl),rfl,m1,m2,m3,mF,rfl,rfl,ck,eH,rfl,oY,oX,eZ,ga,gF,oW,rfl,aa⟩
        | false=>
         exact al0 ⟨fa,ai,aC,rfl,fg,rfl,dd,(iE dd rfl),rfl,m1,m2,m3,mF,rfl,rfl,ck,eH,rfl,oY,oX,eZ,ga,gF,oW,rfl,aa⟩
       | false=>
        exact al1 ⟨fa,ai,aC,rfl,fg,rfl,dd,(iE dd rfl),rfl,m1,m2,m3,mF,rfl,rfl,ck,eH,rfl,aa⟩
      | false=>
       cases l6<;>exact al2 ⟨fa,ai,aC,rfl,fg,rfl,dd,(iE dd rfl),rfl,m1,m2,m3,mF,rfl,rfl,ck,aa⟩
    | false=>
     cases ck:p.kind==1 with
     | true=>
      cases l6 with
      | true=>
       cases pG with
       | true=>
        exact al3 ⟨fa,ai,aC,rfl,fg,rfl,dd,(iE dd rfl),rfl,rfl,ck,eH,rfl,oY,oX,eZ,ga,gF,oW,rfl,aa⟩
       | false=>
        exact al4 ⟨fa,ai,aC,rfl,fg,rfl,dd,(iE dd rfl),rfl,rfl,ck,eH,rfl,oY,oX,eZ,ga,gF,oW,rfl,aa⟩
      | false=>
       exact al5 ⟨fa,ai,aC,rfl,fg,rfl,dd,(iE dd rfl),rfl,rfl,ck,eH,rfl,aa⟩
     | false=>
      cases l6<;>exact al6 ⟨fa,ai,aC,rfl,fg,rfl,dd,(iE dd rfl),rfl,rfl,ck,aa⟩
   | false=>
    cases ck:p.kind==1 with
    | true=>
     cases l6 with
     | true=>
      cases pG with
      | true=>
       exact al7 ⟨fa,ai,aC,rfl,fg,rfl,dd,rfl,ck,eH,rfl,oY,oX,eZ,ga,gF,oW,rfl,aa⟩
      | false=>
       exact al8 ⟨fa,ai,aC,rfl,fg,rfl,dd,rfl,ck,eH,rfl,oY,oX,eZ,ga,gF,oW,rfl,aa⟩
     | false=>
      exact al9 ⟨fa,ai,aC,rfl,fg,rfl,dd,rfl,ck,eH,rfl,aa⟩
    | false=>
     cases l6<;>exact anD ⟨fa,ai,aC,rfl,fg,rfl,dd,rfl,ck,aa⟩
  | false=>
   cases l6<;>exact anE ⟨fa,ai,aC,rfl,fg,rfl,rfl,aa⟩
theorem anl(a b:a')(p:cN)(r:aq)(xs ys ws cr:List aq)(lM l6 ok rI rH pG:Bool)
  (fa:al 103 [.agg a.e] [.one (.J 5 (xs.map aq.e))]) (ai:al 103 [.agg b.e] [.one (.J 5 (ys.map aq.e))])
  (aC:al 226 [.one (.J 5 (xs.map aq.e)),.one (.J 5 (ys.map aq.e))] [.one (B lM)]) (eH:al 225 [.agg a.e,.agg b.e,.one (I (-1)),.one (I 0)] [.one (B l6)])
  (fg:al 92 [.agg a.e,.agg p.e] [.agg r.e,.one (B ok)]) (iE:(p.kind==2)=true->ok=true->al 225 [.agg a.e,.agg b.e,.one (I p.a),.one (I 1)] [.one (B rI)])
  (m1:((xs.map aq.e).length+[r.e].length)*40<=140737488355328) (m2:(xs.map aq.e).length+[r.e].length<=9223372036854775807) (m3:Flat [r.e])
  (mF:al 227 [.one (.J 5 (ys.map aq.e)),.one (.J 5 (xs.map aq.e++[r.e]))] [.one (B rH)])
  (oY:al 99 [.one (.J 5 (xs.map aq.e)),.agg r.e] [.one (.J 5 (ws.map aq.e))]) (oX:al 97 [.agg a.e,.agg p.e] [.one (.J 5 (cr.map aq.e))])
  (eZ:((ws.map aq.e).length+(cr.map aq.e).length)*40<=140737488355328) (ga:(ws.map aq.e).length+(cr.map aq.e).length<=9223372036854775807) (gF:Flat (cr.map aq.e))
  (oW:al 227 [.one (.J 5 (ys.map aq.e)),.one (.J 5 (ws.map aq.e++cr.map aq.e))] [.one (B pG)]):
  al 88 [.agg a.e,.agg b.e,.agg p.e] [.one (I (zG lM l6 ok (p.kind==2) rI rH (p.kind==1) pG))]:=by
 cases l6 with
 | true=>
  cases lM with
  | true=>
   cases ok<;>exact anF ⟨fa,ai,fg,eH,rfl,aC,rfl,aa⟩
  | false=>
   cases dd:p.kind==2 with
   | true=>
    cases ok with
    | true=>
     cases rI with
     | true=>
      cases rH with
      | true=>
       exact anG ⟨fa,ai,fg,eH,rfl,aC,rfl,dd,rfl,(iE dd rfl),rfl,m1,m2,m3,mF,rfl,aa⟩
      | false=>
       cases ck:p.kind==1 with
       | true=>
        cases pG with
        | true=>
         exact anH ⟨fa,ai,fg,eH,rfl,aC,rfl,dd,rfl,(iE dd rfl),rfl,m1,m2,m3,mF,rfl,ck,rfl,eH,rfl,oY,oX,eZ,ga,gF,oW,rfl,aa⟩
        | false=>
         exact anI ⟨fa,ai,fg,eH,rfl,aC,rfl,dd,rfl,(iE dd rfl),rfl,m1,m2,m3,mF,rfl,ck,rfl,eH,rfl,oY,oX,eZ,ga,gF,oW,rfl,aa⟩
       | false=>
        exact anJ ⟨fa,ai,fg,eH,rfl,aC,rfl,dd,rfl,(iE dd rfl),rfl,m1,m2,m3,mF,rfl,ck,aa⟩
     | false=>
      cases ck:p.kind==1 with
      | true=>
       cases pG with
       | true=>
        exact anK ⟨fa,ai,fg,eH,rfl,aC,rfl,dd,rfl,(iE dd rfl),rfl,ck,rfl,eH,rfl,oY,oX,eZ,ga,gF,oW,rfl,aa⟩
       | false=>
        exact anL ⟨fa,ai,fg,eH,rfl,aC,rfl,dd,rfl,(iE dd rfl),rfl,ck,rfl,eH,rfl,oY,oX,eZ,ga,gF,oW,rfl,aa⟩
      | false=>
       exact anM ⟨fa,ai,fg,eH,rfl,aC,rfl,dd,rfl,(iE dd rfl),rfl,ck,aa⟩
    | false=>
     cases ck:p.kind==1 with
     | true=>
      exact anN ⟨fa,ai,fg,eH,rfl,aC,rfl,dd,rfl,ck,rfl,aa⟩
     | false=>
      exact anO ⟨fa,ai,fg,eH,rfl,aC,rfl,dd,rfl,ck,aa⟩
   | false=>
    cases ck:p.kind==1 with
    | true=>
     cases ok with
     | true=>
      cases pG with
      | true=>
       exact anP ⟨fa,ai,fg,eH,rfl,aC,rfl,dd,ck,rfl,eH,rfl,oY,oX,eZ,ga,gF,oW,rfl,aa⟩
      | false=>
       exact anQ ⟨fa,ai,fg,eH,rfl,aC,rfl,dd,ck,rfl,eH,rfl,oY,oX,eZ,ga,gF,oW,rfl,aa⟩
     | false=>
      exact anR ⟨fa,ai,fg,eH,rfl,aC,rfl,dd,ck,rfl,aa⟩
    | false=>
     cases ok<;>exact anS ⟨fa,ai,fg,eH,rfl,aC,rfl,dd,ck,aa⟩
 | false=>
  cases dd:p.kind==2 with
  | true=>
   cases ok with
   | true=>
    cases rI with
    | true=>
     cases rH with
     | true=>
      cases lM<;>exact anT ⟨fa,ai,fg,eH,rfl,dd,rfl,(iE dd rfl),rfl,m1,m2,m3,mF,rfl,aa⟩
     | false=>
      cases ck:p.kind==1 with
      | true=>
       cases lM<;>exact anU ⟨fa,ai,fg,eH,rfl,dd,rfl,(iE dd rfl),rfl,m1,m2,m3,mF,rfl,ck,rfl,eH,rfl,aa⟩
      | false=>
       cases lM<;>exact anV ⟨fa,ai,fg,eH,rfl,dd,rfl,(iE dd rfl),rfl,m1,m2,m3,mF,rfl,ck,aa⟩
    | false=>
     cases ck:p.kind==1 with
     | true=>
      cases lM<;>exact anW ⟨fa,ai,fg,eH,rfl,dd,rfl,(iE dd rfl),rfl,ck,rfl,eH,rfl,aa⟩
     | false=>
      cases lM<;>exact anX ⟨fa,ai,fg,eH,rfl,dd,rfl,(iE dd rfl),rfl,ck,aa⟩
   | false=>
    cases ck:p.kind==1 with
    | true=>
     cases lM<;>exact anY ⟨fa,ai,fg,eH,rfl,dd,rfl,ck,rfl,aa⟩
    | false=>
     cases lM<;>exact anZ ⟨fa,ai,fg,eH,rfl,dd,rfl,ck,aa⟩
  | false=>
   cases ck:p.kind==1 with
   | true=>
    cases ok with
    | true=>
     cases lM<;>exact an0 ⟨fa,ai,fg,eH,rfl,dd,ck,rfl,eH,rfl,aa⟩
    | false=>
     cases lM<;>exact an1 ⟨fa,ai,fg,eH,rfl,dd,ck,rfl,aa⟩
   | false=>
    cases lM<;>cases ok<;>exact an2 ⟨fa,ai,fg,eH,rfl,dd,ck,aa⟩
def rp(a b:a')(p:cN):Int:=
 zG (decide (fc a=fc b)) (oF a b 0 0) (fV a p).2 (p.kind==2) (oF a b p.a 1) (rn (fc a++[(fV a p).1]) (fc b)) (p.kind==1) (rn (l2 (fc a) (fV a p).1++lJ a p) (fc b))
theorem anm{p:cN}(hk:(p.kind==2)=true)(h:(fV c p).2=true):∀(i:Nat) (x:aP),c.az[i]?=some x->(i:Int)=p.a->1<=x.bO.length:=by
 intro i x ah hi;have hk:p.kind=2:=by simpa using hk
 unfold fV mU at h;rw[<-hi]at h;simp only[bD,fX,k7,ah,hk]at h;cases iV:x.bO with
 | nil=>rw[iV]at h;cases h
 | cons r rs=>simp
theorem Xz(h:c.sz<=8388608):(fc c).length+1<=8388608:=by
 rw[VD];by_cases bi:c.az.length=0/\c.bP.length=0
 ·have e1:=sV bi.1;have e2:=sV bi.2;simp[hQ,e1,e2]
 have h1:=BR iH aP.sz (fun w=>by simp only[aP.sz,iH,fF];omega) c.az;have U:=BR bw.queue bw.sz (fun l=>by simp only[bw.sz];omega) c.bP;simp only[a'.sz,fs]at h;simp only[hQ,fF];omega
theorem ann{xs:List aq}{r:aq}(h:r∈xs):(l2 xs r).length+1=xs.length:=by
 unfold l2;cases e:xs.findIdx? (fun a=>decide (a=r)) with
 | none=>
  rw[ya]at e;have:=e r h;simp at this
 | some i=>
  rw[qs]at e;have:=e.1;simp;omega
theorem ano{p:cN}(hk:¬(p.kind==2)=true)(h:(fV c p).2=true):(fV c p).1∈fc c:=by
 have dd:¬p.kind=2:=by simpa using hk
 unfold fV at h ⊢;cases hw:mU c p.a with
 | none=>rw[hw]at h;cases h
 | some w=>
  rw[hw]at h;simp only[bk dd]at h ⊢;by_cases ck:p.kind=1
  ·simp only[bm ck]at h ⊢;cases aK:w.queue with
   | nil=>rw[aK]at h;cases h
   | cons r rs=>
    have hm:r∈hQ c:=ij _ (nm.2 ⟨w,Nn hw,by simp[iH,aK]⟩);exact ((show (fc c).Perm (hQ c) from (zt zZ (hQ c) [] List.Pairwise.nil).2).mem_iff).2 hm
  simp only[bk ck]at h;cases h
theorem XA(c:a')(p:cN):(l2 (fc c) (fV c p).1).length+(lJ c p).length<=(fc c).length+1:=by
 have h1:=Fz (fc c) (fV c p).1;by_cases aj:(fV c p).2=true
 ·by_cases hk:(p.kind==2)=true
  ·have:(lJ c p).length=1:=by unfold lJ;rw[bm aj,bm hk];rfl
   omega
  have U:=ann (ano hk aj);have ax:=Xt c p;omega
 have:(lJ c p).length=0:=by unfold lJ;rw[bk aj];rfl
 omega
theorem anp(a b:a')(p:cN)(ak:a.sz<=8388608)(av:b.sz<=8388608):al 96 [.agg a.e,.agg b.e,.agg p.e] [.one (I (rp a b p))]:=by
 have gr:=Xz ak;have mP:=VE av;have ED:=Fz (fc a) (fV a p).1;have adE:=XA a p;have g1:=Xx (fc a++[(fV a p).1]) (fc b) (by simp only[fF,List.length_singleton];omega) mP;have g2:=Xx (l2 (fc a) (fV a p).1++lJ a p) (fc b) (by simp only[fF,List.length_singleton];omega) mP;rw[fQ]at g1 g2;exact ank a b p (fV a p).1 (fc a) (fc b) (l2 (fc a) (fV a p).1) (lJ a p) _ _ _ _ _ _ (VF a ak) (VF b av) (Ob _ _ (by omega)) (Xv a b 0 0 ak (by omega))
  (Ml a p ak) (fun _ _=>Xv a b p.a 1 ak (by omega)) (by simp only[bl,List.length_singleton];omega) (by simp only[bl,List.length_singleton];omega) (dD (fV a p).1.flat) g1 (VJ _ _ (by omega)) (Xr a p ak) (by simp only[bl,List.length_singleton];omega) (by simp only[bl,List.length_singleton];omega) (ch _ aq.flat _) g2
theorem XB(a b:a')(p:cN)(ak:a.sz<=8388608)(av:b.sz<=8388608):al 88 [.agg a.e,.agg b.e,.agg p.e] [.one (I (rp a b p))]:=by
 have gr:=Xz ak;have mP:=VE av;have ED:=Fz (fc a) (fV a p).1;have adE:=XA a p;have g1:=Xy (fc a++[(fV a p).1]) (fc b) (by simp only[fF,List.length_singleton];omega) mP;have g2:=Xy (l2 (fc a) (fV a p).1++lJ a p) (fc b) (by simp only[fF,List.length_singleton];omega) mP;rw[fQ]at g1 g2;have i0:=Xw a b (-1) 0 ak (fun _ _ _ _=>Nat.zero_le _);rw[anj a b (-1) 0]at i0;exact anl a b p (fV a p).1 (fc a) (fc b) (l2 (fc a) (fV a p).1) (lJ a p) _ _ _ _ _ _ (VG a ak) (VG b av) (Nl _ _ (by omega)) i0
  (Mm a p ak) (fun h1 U=>Xw a b p.a 1 ak (anm h1 U)) (by simp only[bl,List.length_singleton];omega) (by simp only[bl,List.length_singleton];omega) (dD (fV a p).1.flat) g1 (VK _ _ (by omega)) (Xs a p ak) (by simp only[bl,List.length_singleton];omega) (by simp only[bl,List.length_singleton];omega) (ch _ aq.flat _) g2
end Go.Proofs.YtdchjefneblpgaaGreat
namespace Go.Proofs.YtdchjefneblpgaaGreat
open Go.Sx Go.RowKit Go.Proofs.Tryz
theorem XC(c:a'):(fc c).Perm (hQ c):=by
 obtain⟨_,h⟩:=zt zZ (hQ c) [] List.Pairwise.nil;exact h
theorem zH(c:a')(a:aq):(fc c).count a=(hQ c).count a:=List.perm_iff_count.1 (XC c) a
theorem XD{xs ys:List aq}(h:∀a,xs.count a=ys.count a):rn xs ys=true:=by
 unfold rn;exact jj (VP (List.perm_iff_count.2 h))
variable{a:a'}
theorem XE{b:a'}{w:Int}{k:Nat}(ap:a.az.length=b.az.length)(h:∀(i:Nat) (x y:aP),a.az[i]?=some x->b.az[i]?=some y->qE w k i x=y.bO):oF a b w k=true:=by
 unfold oF;rw[jj ap,NM]
 ·rfl
 intro i x ah;unfold rm;cases bf:b.az[i]? with
 | none=>rfl
 | some y=>simp[h i x y ah bf]
theorem vQ{b:a'}(h:b.az.map aP.bO=a.az.map aP.bO)(w:Int):oF a b w 0=true:=by
 have ap:a.az.length=b.az.length:=by
  have:=congrArg List.length h;simpa using this.symm
 refine XE ap fun i x y ah bf=>?_
 rw[Xu];have:=congrArg (fun l=>l[i]?) h;simp only[dq,ah,bf,mz,aV]at this;exact this.symm
theorem zI{c:a'}{i:Int}{x y:aP}(ah:dh c i=some x)(h:y.bO=x.bO):(setW c i y).az.map aP.bO=c.az.map aP.bO:=by
 unfold setW;dsimp only;rw[h6,h];exact N5 (by rw[dq,(hS ah).2.2];rfl)
theorem XF(c:a')(e:Int)(t:b4)(x:aP)(ah:dh c t.place=some x)(a:aq):(hQ (eN c e t x).1).count a=(hQ c).count a/\(eN c e t x).1.az.map aP.bO=c.az.map aP.bO:=by
 have one:∀(d:a') (y:aP),d.az=(setW c t.place y).az->d.bP=c.bP->mH a y=mH a x->y.bO=x.bO->(hQ d).count a=(hQ c).count a/\d.az.map aP.bO=c.az.map aP.bO:=by
  intro d y h1 U ax aF;have aZ:=xP (c:=c) y ah a;refine⟨?_,by rw[h1];exact zI ah aF⟩;rw[sF,h1,U];rw[sF]at aZ;simp only[setW]at aZ ⊢;omega
 rcases CG c e t x with⟨_,k⟩ | ⟨_,_,⟨_,k⟩ | ⟨_,_,k⟩ | ⟨_,aX,_,k⟩ | ⟨_,_,_,k⟩⟩<;>rw[k]
 ·exact⟨rfl,rfl⟩
 ·exact one _ (gR x e) rfl rfl rfl rfl
 ·exact one _ (gR x e) rfl rfl rfl rfl
 ·have bi:t.place=0:=by have:=(hS ah).1;omega
  exact one _ (told x e (t.du||x.bx.getD e.toNat false)) (by rw[bi];rfl) rfl rfl rfl
 exact⟨by rw[sF,sF];rfl,rfl⟩
theorem anq(r a:aq):∀(xs:List aq),r∈xs->(l2 xs r).count a+(if a=r then 1 else 0)=xs.count a:=by
 intro xs aA;unfold l2;cases h:xs.findIdx? (fun b=>decide (b=r)) with
 | none=>
  rw[ya]at h;have:=h r aA;simp at this
 | some i=>
  obtain⟨hi,hp,_⟩:=qs.1 h;have he:xs[i]=r:=by simpa using hp
  have ah:xs=xs.take i++(r::xs.drop (i+1)):=by
   rw[<-he,List.getElem_cons_drop,Ak]
  dsimp only
  conv=>rhs;rw[ah]
  rw[List.count_append,List.count_append,List.count_cons];by_cases q:a=r
  ·subst q;simp;omega
  have iv:¬r=a:=fun z=>q z.symm
  simp[q,iv]
def gv(p:cN)(b:Bool):Int:=if (b&&p.kind==2)=true then 1 else if (b&&p.kind==1)=true then 2 else 0
theorem vo{b:a'}{p:cN}(h1:fc a=fc b)(U:oF a b 0 0=true):rp a b p=0:=by
 unfold rp zG;rw[jj h1,U];rfl
theorem anr{c d:a'}{p:cN}(st:Step c p d):rp c d p=gv p true\/(rp c d p=0/\p.kind=1):=by
 cases st with
 | work x r q hk ah ao aK=>
  have yy:fV c p=(r,true):=by
   unfold fV mU;rw[bm (hS ah).1,(hS ah).2.2];simp[hk,aK]
  have acS:lJ c p=(dB c.aE x.cells r).2.1:=by
   unfold lJ mU;rw[yy,bm (hS ah).1,(hS ah).2.2];simp[hk]
  generalize bf:(⟨q,(dB c.aE x.cells r).2.1,x.bO,(dB c.aE x.cells r).1,x.bL,x.bU,(if du c.aE r then x.bx.set r.bq.bd.toNat true else x.bx),x.b8⟩:aP)=y at*;have Qs:y.queue=q:=by rw[<-bf]
  have ys:y.cj=(dB c.aE x.cells r).2.1:=by rw[<-bf]
  have Qr:y.bO=x.bO:=by rw[<-bf]
  have lz:=vQ (zI (y:=y) ah Qr) 0;by_cases yJ:fc c=fc (setW c p.a y)
  ·exact .inr ⟨vo yJ lz,hk⟩
  left;have o7:r∈fc c:=by
   refine (XC c).mem_iff.2 ?_;unfold hQ;refine ij _ (nm.2 ⟨x,eD (hS ah).2.2,?_⟩);unfold iH;rw[aK];exact ij _ (hX ..)
  have Ih:rn (l2 (fc c) r++(dB c.aE x.cells r).2.1) (fc (setW c p.a y))=true:=XD fun a=>by
   have h1:=anq r a (fc c) o7;have U:=xP (c:=c) y ah a;rw[zH]at h1;rw[List.count_append,zH];unfold mH at U;rw[Qs,ys,aK,ao,List.count_cons,List.count_nil]at U;by_cases e:a=r
   ·subst e;rw[bm rfl]at h1;rw[v',bm rfl]at U;omega
   have e2:(r==a)=false:=by rw[sT];exact fun z=>e z.symm
   rw[bk e]at h1;rw[e2]at U;simp only[nY,lP]at U;omega
  unfold rp zG;rw[yy,acS,lQ yJ,lz,Ih];simp[hk,gv]
 | input x r t hk ah ao aK hi=>
  left;have yy:fV c p=(r,true):=by
   unfold fV mU;rw[bm (hS ah).1,(hS ah).2.2];simp[hk,hi]
  generalize bf:(⟨[r],[],t,x.cells,x.bL,x.bU,x.bx,x.b8⟩:aP)=y at*;have Qs:y.queue=[r]:=by rw[<-bf]
  have ys:y.cj=[]:=by rw[<-bf]
  have Qr:y.bO=t:=by rw[<-bf]
  have QL:∀a,(hQ (setW c p.a y)).count a=(hQ c).count a+[r].count a:=fun a=>by
   have U:=xP (c:=c) y ah a;unfold mH at U;rw[Qs,ys,aK,ao,List.count_nil]at U;omega
  have yJ:fc c≠fc (setW c p.a y):=fun e=>by
   have h1:=congrArg (List.count r) e;rw[zH,zH,QL r]at h1;simp at h1
  have Ih:rn (fc c++[r]) (fc (setW c p.a y))=true:=XD fun a=>by
   rw[List.count_append,zH,zH,QL a]
  have lz:oF c (setW c p.a y) p.a 1=true:=by
   refine XE (by unfold setW;dsimp only;rw[fR]) fun i u v hu bp=>?_
   obtain⟨w0,w1,hE⟩:=hS ah;unfold qE;by_cases Rk:(i:Int)=p.a
   ·have:p.a.toNat=i:=by omega
    rw[this]at hE;rw[hE]at hu;cases hu;have q5:v=y:=by
     have:=Gu (y:=y) (hS ah).2.2;rw[‹p.a.toNat=i›]at this;change (c.az.set p.a.toNat y)[i]?=some v at bp;rw[‹p.a.toNat=i›,this]at bp;cases bp;rfl
    subst q5;rw[bm ⟨Rk,by rw[hi];simp⟩,hi,Qr];rfl
   rw[bk (fun z=>Rk z.1)];change (c.az.set p.a.toNat y)[i]?=some v at bp;rw[List.getElem?_set_ne (by omega),hu]at bp;cases bp;rfl
  unfold rp zG;rw[yy,lQ yJ,lz,Ih];simp[hk,gv]
 | fU x r t hk ah ao ba=>
  left;have bG:gv p true=0:=by simp[gv,hk]
  rw[bG];refine vo (zE fun a=>?_).symm (vQ (zI (y:=kept (hn x t) r) ah rfl) 0);have U:=xP (c:=c) (kept (hn x t) r) ah a;unfold mH kept hn at U;dsimp only at U;rw[ao,List.count_append,List.count_cons,List.count_cons,List.count_nil]at U;unfold kept hn;dsimp only;omega
 | send x r t l hk ah ao ba ap hsend=>
  left;have bG:gv p true=0:=by simp[gv,hk]
  rw[bG];obtain⟨_,_,_,e1⟩:=VM hsend;have BB:(ez l r).1.queue=l.queue++[r]:=by rw[e1]
  have q6:dh (ec c (fp c.aE p.a (jK r.key c.aE.az)) (ez l r).1) p.a=some x:=ah;refine vo (zE fun a=>?_).symm (vQ ?_ 0)
  ·have U:=xP (lI (hn x t) r.bq.bd) q6 a;have ax:=N2 (ez l r).1 ap a;unfold mH lI hn at U;unfold wv at ax;dsimp only at U;rw[ao,List.count_cons]at U;rw[BB,List.count_append,List.count_cons,List.count_nil]at ax;unfold lI hn;dsimp only;omega
  rw[zI (y:=lI (hn x t) r.bq.bd) q6 rfl];rfl
 | take l x hk fk ap ah bT=>
  left;have bG:gv p true=0:=by simp[gv,hk]
  rw[bG];obtain⟨_,r,q,aK,e2,e1⟩:=VN bT;have BB:(dY l).1.queue=q:=by rw[e1]
  have q6:dh (ec c (fp c.aE p.a p.b) (dY l).1) p.b=some x:=ah;refine vo (zE fun a=>?_).symm (vQ ?_ 0)
  ·have U:=xP (ig x (dY l).2.1) q6 a;have ax:=N2 (dY l).1 ap a;rw[e2]at U ⊢;unfold mH ig at U;unfold wv at ax;dsimp only at U;rw[List.count_append,List.count_cons,List.count_nil]at U;rw[BB,aK,List.count_cons]at ax;unfold ig;omega
  rw[zI (y:=ig x (dY l).2.1) q6 rfl];rfl
 | DZ l hk fk ap aj=>
  left;have bG:gv p true=0:=by simp[gv,hk]
  rw[bG];rcases NZ l with⟨k,_⟩ | ⟨_,_,_,e1⟩
  ·rw[aj]at k;cases k
  have BB:(fO l).1.queue=l.queue:=by rw[e1]
  refine vo (zE fun a=>?_).symm (vQ rfl 0);have ax:=N2 (fO l).1 ap a;unfold wv at ax;rw[BB]at ax;omega
 | token t x ff hk acg bG aG bT ah Q9=>
  left;have bG:gv p true=0:=by simp[gv,hk]
  rw[bG];exact vo (zE fun a=>(XF c p.a t x ah a).1).symm (vQ (XF c p.a t x ah xW).2 0)
 | Eh k n x hk aX aG ah=>
  left;have bG:gv p true=0:=by simp[gv,hk]
  rw[bG];have bJ:mH=mH:=rfl;refine vo (zE fun a=>?_).symm (vQ (b:=iL (setW c p.a (gh x n)) (cutAt c.news k)) (by
   change (setW c p.a (gh x n)).az.map aP.bO=_;exact zI ah (by unfold gh;split<;>rfl)) 0)
  have U:=xP (c:=c) (gh x n) ah a;have ax:mH a (gh x n)=mH a x:=by unfold gh;split<;>rfl
  rw[ax]at U;have aF:(hQ (iL (setW c p.a (gh x n)) (cutAt c.news k))).count a=(hQ (setW c p.a (gh x n))).count a:=by
   rw[sF,sF];rfl
  omega
