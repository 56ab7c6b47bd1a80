import Derived.Test.YtdchjefneblpgaaGreatP17
set_option linter.unusedVariables false
set_option linter.unusedSimpArgs false
namespace Go.Proofs.YtdchjefneblpgaaGreat
open Go.Sx Go.RowKit Go.Proofs.Tryz
variable{c:aU}
theorem vj(h:c.sz<=8388608):c.aF.sz<=8388608:=by simp only[aU.sz]at h;omega
theorem acA(h:c.sz<=8388608):c.tokens.length<=8388608:=by simp only[aU.sz,fp]at h;omega
theorem Kn(h:c.sz<=8388608):c.news.length<=8388608:=by simp only[aU.sz,fp]at h;omega
def lE(g:bW)(i:Nat)(l:bC):Bool:=
 !k9 l||((l.cap != g.cap)||(!hU g l.queue||((i:Int).tdiv g.ap==(i:Int).tmod g.ap&&decide ((l.queue.length:Int)>0))))
def nT(n:Int)(t:b'):Bool:=!aW t.place 0 (n-1)||((!t.going&&t.place != 0)||!aW t.sum (-1000000) 1000000)
def nU(n:Int)(x:cA):Bool:=!aW x.dest 0 (n-1)||!aW x.a8 0 3
def cF(c:aU):Bool:=
 fa c.aF&&(((c.ap.length:Int)==c.aF.ap)&&(((c.bQ.length:Int)==c.aF.ap*c.aF.ap)&&((c.tokens.length==4)&&(!(c.ap.any fun w=>!fz c.aF w)&&(!(anyI (lE c.aF) 0 c.bQ)&&(!(c.tokens.any (nT c.aF.ap))&&!(c.news.any (nU c.aF.ap))))))))
theorem jZ{g:bW}(h:fa g=true):1<=g.ap/\g.ap<=4:=by
 simp only[fa,ca,aW,ci]at h;omega
theorem Ko(i:Nat)(n:Int)(hi:i<=8388608)(aL:1<=n):bf .i64 ((i:Int).tdiv n):=by
 have h1:0<=(i:Int).tdiv n:=Int.tdiv_nonneg (by omega) (by omega);have U:(i:Int).tdiv n<=(i:Int):=Int.tdiv_le_self _ (by omega);exact⟨by omega,by omega⟩
theorem acB(h:c.wf){l:bC}(af:l∈c.bQ):l.dO<=9223372036854775807:=by
 have:=(aU.HN h af).M3;simp only[bf]at this;exact this.2
def iV(c:aU):Prop:=∀l∈c.bQ,l.dO<=9223372036854775807
theorem iV.of(h:c.wf):iV c:=fun _ af=>acB h af
theorem acC(c:aU)(ad:c.sz<=8388608)(aL:(c.ap.length:Int)=c.aF.ap):
  ((c.ap.any fun w=>!fz c.aF w)=false/\dd prog (az f56 0) (sR (c.aF.nodes.map Node.e) c.aF.ap c.aF.cap (c.ap.map aP.e) (c.bQ.map bC.e) (c.tokens.map b'.e) (c.news.map cA.e) 0) (.exit 0) (H5 (c.aF.nodes.map Node.e) c.aF.ap c.aF.cap (c.ap.map aP.e) (c.bQ.map bC.e) (c.tokens.map b'.e) (c.news.map cA.e)))\/
  ((c.ap.any fun w=>!fz c.aF w)=true/\dd prog (az f56 0) (sR (c.aF.nodes.map Node.e) c.aF.ap c.aF.cap (c.ap.map aP.e) (c.bQ.map bC.e) (c.tokens.map b'.e) (c.news.map cA.e) 0) .ret (Ev false)):=by
 have af:=aU.xe ad;have l:=jb (P:=prog) (c:=(az f56 0)) c.ap (fun w=>!fz c.aF w) (fun i=>sR (c.aF.nodes.map Node.e) c.aF.ap c.aF.cap (c.ap.map aP.e) (c.bQ.map bC.e) (c.tokens.map b'.e) (c.news.map cA.e) i) (X:=fun _ _=>Ev false) hd (cL 0)
  (fun i a ag h=>by
   have k:=D0 c.aF a (vj ad) (aU.Vg ad (c8 ag));rw[show fz c.aF a=true by simpa using h]at k;exact abZ ⟨dU (by have:=bh ag;omega),bG,bJ (bh ag),bF aP.e ag,k,rfl,cY (bh ag) af,aj⟩)
  (fun i a ag h=>by
   have k:=D0 c.aF a (vj ad) (aU.Vg ad (c8 ag));rw[show fz c.aF a=false by simpa using h]at k;exact abY ⟨dU (by have:=bh ag;omega),bG,bJ (bh ag),bF aP.e ag,k,rfl,aj⟩)
  (ab0 ⟨eX (by omega),aj⟩)
 rcases l with⟨_,_,h1,U⟩ | ⟨_,_,_,_,_,_,h1,U⟩
 ·exact .inl ⟨h1,U⟩
 exact .inr ⟨h1,U⟩
theorem acD(c:aU)(ad:c.sz<=8388608)(hw:iV c)(aL:1<=c.aF.ap):
  (anyI (lE c.aF) 0 c.bQ=false/\dd prog (az f56 1) (l' c.aF.ap 0 (c.aF.nodes.map Node.e) c.aF.ap c.aF.cap (c.ap.map aP.e) (c.bQ.map bC.e) (c.tokens.map b'.e) (c.news.map cA.e)) (.exit 2) (Br c.aF.ap (c.aF.nodes.map Node.e) c.aF.ap c.aF.cap (c.ap.map aP.e) (c.bQ.map bC.e) (c.tokens.map b'.e) (c.news.map cA.e)))\/
  (anyI (lE c.aF) 0 c.bQ=true/\dd prog (az f56 1) (l' c.aF.ap 0 (c.aF.nodes.map Node.e) c.aF.ap c.aF.cap (c.ap.map aP.e) (c.bQ.map bC.e) (c.tokens.map b'.e) (c.news.map cA.e)) .ret (yM false)):=by
 have af:=aU.xY ad;have xT:∀(i:Nat) (a:bC),c.bQ[i]?=some a->∀r,k9 a=r->aK 191 [.agg a.e] [.one (B r)]:=fun i a ag r h=>h▸DZ a (aU.Om ad (c8 ag))
 have kg:∀(i:Nat) (a:bC),c.bQ[i]?=some a->∀r,hU c.aF a.queue=r->aK 192 [.agg c.aF.e,.one (.J 5 (a.queue.map aA.e))] [.one (B r)]:=fun i a ag r h=>wQ c.aF _ r h (vj ad) (aU.Om ad (c8 ag))
 exact EN (P:=prog) (c:=(az f56 1)) c.bQ (lE c.aF) (fun i=>l' c.aF.ap i (c.aF.nodes.map Node.e) c.aF.ap c.aF.cap (c.ap.map aP.e) (c.bQ.map bC.e) (c.tokens.map b'.e) (c.news.map cA.e)) hd (cL 2)
  (fun i a ag h=>by
   have hi:=bh ag;simp only[lE,gz,lf]at h;obtain⟨h1,U,au,aH⟩:=h;cases ba:((i:Int).tdiv c.aF.ap==(i:Int).tmod c.aF.ap) with
   | true=>
    rw[ba,lM]at aH;exact ab6 ⟨cg (bh ag),bG,bJ (bh ag),bF bC.e ag,xT i a ag _ h1,rfl,U,kg i a ag _ au,rfl,by omega,Ko i _ (by omega) aL,by omega,ba,by rw[bp];exact aH,cY hi af,aj⟩
   | false=>exact abx ⟨cg (bh ag),bG,bJ (bh ag),bF bC.e ag,xT i a ag _ h1,rfl,U,kg i a ag _ au,rfl,by omega,Ko i _ (by omega) aL,by omega,ba,cY hi af,aj⟩)
  (fun i a ag h=>by
   have hi:=bh ag;cases h1:k9 a with
   | false=>exact ab2 ⟨cg (bh ag),bG,bJ (bh ag),bF bC.e ag,xT i a ag _ h1,rfl,aj⟩
   | true=>
   cases U:(a.cap != c.aF.cap) with
   | true=>exact ab3 ⟨cg (bh ag),bG,bJ (bh ag),bF bC.e ag,xT i a ag _ h1,rfl,U,aj⟩
   | false=>
   cases au:hU c.aF a.queue with
   | false=>exact ab4 ⟨cg (bh ag),bG,bJ (bh ag),bF bC.e ag,xT i a ag _ h1,rfl,U,kg i a ag _ au,rfl,aj⟩
   | true=>
   simp only[lE,h1,U,au,ks,ml,ca]at h;exact ab5 ⟨cg (bh ag),bG,bJ (bh ag),bF bC.e ag,xT i a ag _ h1,rfl,U,kg i a ag _ au,rfl,by omega,Ko i _ (by omega) aL,by omega,h.1,by rw[bp];exact h.2,aj⟩)
  (aby ⟨dH,aj⟩)
theorem acE(c:aU)(ad:c.sz<=8388608)(aL:1<=c.aF.ap/\c.aF.ap<=4):
  ((c.tokens.any (nT c.aF.ap))=false/\dd prog (az f56 2) (mV c.aF.ap (c.aF.nodes.map Node.e) c.aF.ap c.aF.cap (c.ap.map aP.e) (c.bQ.map bC.e) (c.tokens.map b'.e) (c.news.map cA.e) 0) (.exit 4) (Ew c.aF.ap (c.aF.nodes.map Node.e) c.aF.ap c.aF.cap (c.ap.map aP.e) (c.bQ.map bC.e) (c.tokens.map b'.e) (c.news.map cA.e)))\/
  ((c.tokens.any (nT c.aF.ap))=true/\dd prog (az f56 2) (mV c.aF.ap (c.aF.nodes.map Node.e) c.aF.ap c.aF.cap (c.ap.map aP.e) (c.bQ.map bC.e) (c.tokens.map b'.e) (c.news.map cA.e) 0) .ret (v8 false)):=by
 have af:=acA ad;have l:=jb (P:=prog) (c:=(az f56 2)) c.tokens (nT c.aF.ap) (fun i=>mV c.aF.ap (c.aF.nodes.map Node.e) c.aF.ap c.aF.cap (c.ap.map aP.e) (c.bQ.map bC.e) (c.tokens.map b'.e) (c.news.map cA.e) i) (X:=fun _ _=>v8 false) hd (cL 4)
  (fun i a ag h=>by
   have hi:=bh ag;simp only[nT,gz,lf]at h;obtain⟨h1,U,au⟩:=h;cases ao:a.going with
   | false=>
    rw[ao,nZ,lM]at U;exact abD ⟨cg (bh ag),bG,bJ (bh ag),bF b'.e ag,⟨by omega,by omega⟩,fL true h1,rfl,bG,bJ (bh ag),bF b'.e ag,by rw[ao];rfl,bG,bJ (bh ag),bF b'.e ag,U,bG,bJ (bh ag),bF b'.e ag,fL true au,rfl,cY hi af,aj⟩
   | true=>exact abF ⟨cg (bh ag),bG,bJ (bh ag),bF b'.e ag,⟨by omega,by omega⟩,fL true h1,rfl,bG,bJ (bh ag),bF b'.e ag,by rw[ao];rfl,bG,bJ (bh ag),bF b'.e ag,fL true au,rfl,cY hi af,aj⟩)
  (fun i a ag h=>by
   have hi:=bh ag;cases h1:aW a.place 0 (c.aF.ap-1) with
   | false=>exact abA ⟨cg (bh ag),bG,bJ (bh ag),bF b'.e ag,⟨by omega,by omega⟩,fL false h1,rfl,aj⟩
   | true=>
   simp only[nT,h1,ks,ml]at h;cases ao:a.going with
   | false=>
    rw[ao,nZ,lM]at h;cases U:(a.place != 0) with
    | true=>exact abB ⟨cg (bh ag),bG,bJ (bh ag),bF b'.e ag,⟨by omega,by omega⟩,fL true h1,rfl,bG,bJ (bh ag),bF b'.e ag,by rw[ao];rfl,bG,bJ (bh ag),bF b'.e ag,U,aj⟩
    | false=>
     rw[U,ml]at h;exact abC ⟨cg (bh ag),bG,bJ (bh ag),bF b'.e ag,⟨by omega,by omega⟩,fL true h1,rfl,bG,bJ (bh ag),bF b'.e ag,by rw[ao];rfl,bG,bJ (bh ag),bF b'.e ag,U,bG,bJ (bh ag),bF b'.e ag,fL false (by simpa using h),rfl,aj⟩
   | true=>
    rw[ao,ks,Bool.false_and,ml]at h;exact abE ⟨cg (bh ag),bG,bJ (bh ag),bF b'.e ag,⟨by omega,by omega⟩,fL true h1,rfl,bG,bJ (bh ag),bF b'.e ag,by rw[ao];rfl,bG,bJ (bh ag),bF b'.e ag,fL false (by simpa using h),rfl,aj⟩)
  (abG ⟨dH,aj⟩)
 rcases l with⟨_,_,h1,U⟩ | ⟨_,_,_,_,_,_,h1,U⟩
 ·exact .inl ⟨h1,U⟩
 exact .inr ⟨h1,U⟩
theorem acF(c:aU)(ad:c.sz<=8388608)(aL:1<=c.aF.ap/\c.aF.ap<=4):
  ((c.news.any (nU c.aF.ap))=false/\dd prog (az f56 3) (rH c.aF.ap (c.aF.nodes.map Node.e) c.aF.ap c.aF.cap (c.ap.map aP.e) (c.bQ.map bC.e) (c.tokens.map b'.e) (c.news.map cA.e) 0) (.exit 6) Kj)\/
  ((c.news.any (nU c.aF.ap))=true/\dd prog (az f56 3) (rH c.aF.ap (c.aF.nodes.map Node.e) c.aF.ap c.aF.cap (c.ap.map aP.e) (c.bQ.map bC.e) (c.tokens.map b'.e) (c.news.map cA.e) 0) .ret (Bs false)):=by
 have af:=Kn ad;have l:=jb (P:=prog) (c:=(az f56 3)) c.news (nU c.aF.ap) (fun i=>rH c.aF.ap (c.aF.nodes.map Node.e) c.aF.ap c.aF.cap (c.ap.map aP.e) (c.bQ.map bC.e) (c.tokens.map b'.e) (c.news.map cA.e) i) (X:=fun _ _=>Bs false) hd (cL 6)
  (fun i a ag h=>by
   have hi:=bh ag;simp only[nU,gz,lf]at h;exact adf ⟨cg (bh ag),bG,bJ (bh ag),bF cA.e ag,⟨by omega,by omega⟩,fL true h.1,rfl,bG,bJ (bh ag),bF cA.e ag,fL true h.2,rfl,cY hi af,aj⟩)
  (fun i a ag h=>by
   have hi:=bh ag;cases h1:aW a.dest 0 (c.aF.ap-1) with
   | false=>exact adb ⟨cg (bh ag),bG,bJ (bh ag),bF cA.e ag,⟨by omega,by omega⟩,fL false h1,rfl,aj⟩
   | true=>
    simp only[nU,h1,ks,ml]at h;exact ade ⟨cg (bh ag),bG,bJ (bh ag),bF cA.e ag,⟨by omega,by omega⟩,fL true h1,rfl,bG,bJ (bh ag),bF cA.e ag,fL false (by simpa using h),rfl,aj⟩)
  (adg ⟨dH,aj⟩)
 rcases l with⟨_,_,h1,U⟩ | ⟨_,_,_,_,_,_,h1,U⟩
 ·exact .inl ⟨h1,U⟩
 exact .inr ⟨h1,U⟩
theorem acG(c:aU)(ad:c.sz<=8388608)(hw:iV c):aK 56 [.agg c.e] [.one (B (cF c))]:=by
 have ao:=yc c.aF (vj ad);unfold cF;cases h1:fa c.aF with
 | false=>rw[h1]at ao;exact abU ⟨ao,rfl,aj⟩
 | true=>
 rw[h1]at ao;have aL:=jZ h1;have av:bf .i64 (c.aF.ap*c.aF.ap):=by
  have au:c.aF.ap=1\/c.aF.ap=2\/c.aF.ap=3\/c.aF.ap=4:=by omega
  rcases au with au | au | au | au<;>(rw[au];exact⟨by decide,by decide⟩)
 cases U:((c.ap.length:Int)==c.aF.ap) with
 | false=>exact abV ⟨ao,rfl,by rw[bp];simpa using U,aj⟩
 | true=>
 have v2:((↑(c.ap.map aP.e).length:Int) != c.aF.ap)=false:=by rw[bp];simpa using U
 cases au:((c.bQ.length:Int)==c.aF.ap*c.aF.ap) with
 | false=>exact abW ⟨ao,rfl,v2,av,by rw[bp];simpa using au,aj⟩
 | true=>
 have v3:((↑(c.bQ.map bC.e).length:Int) != c.aF.ap*c.aF.ap)=false:=by rw[bp];simpa using au
 cases aH:(c.tokens.length==4) with
 | false=>exact abX ⟨ao,rfl,v2,av,v3,Dl aH,aj⟩
 | true=>
 rcases acC c ad (eq_of_beq U) with⟨ba,xU⟩ | ⟨ba,xU⟩
 case inr=>rw[ba];exact ab1 ⟨ao,rfl,v2,av,v3,kh aH,xU,aj⟩
 rw[ba];rcases acD c ad hw aL.1 with⟨br,Aj⟩ | ⟨br,Aj⟩
 case inr=>rw[br];exact abz ⟨ao,rfl,v2,av,v3,kh aH,xU,Aj,aj⟩
 rw[br];rcases acE c ad aL with⟨b7,Dk⟩ | ⟨b7,Dk⟩
 case inr=>rw[b7];exact ada ⟨ao,rfl,v2,av,v3,kh aH,xU,Aj,Dk,aj⟩
 rw[b7];rcases acF c ad aL with⟨dV,sM⟩ | ⟨dV,sM⟩
 ·rw[dV];exact adi ⟨ao,rfl,v2,av,v3,kh aH,xU,Aj,Dk,sM,aj⟩
 rw[dV];exact adh ⟨ao,rfl,v2,av,v3,kh aH,xU,Aj,Dk,sM,aj⟩
end Go.Proofs.YtdchjefneblpgaaGreat
namespace Go.Proofs.YtdchjefneblpgaaGreat
open Go.Sx Go.RowKit Go.Proofs.Tryz
def cutAt{α:Type}(xs:List α)(k:Nat):List α:=xs.take k++xs.drop (k+1)
def Fe:aA:=⟨0,⟨0,0⟩,0,0⟩
def kX(xs:List Int)(e d:Int):List Int:=xs.set e.toNat (xs.getD e.toNat 0+d)
def eI(l:bC)(r:aA):bC×Bool:=
 if k9 l&&fZ r&&l.fh != 0&&decide (l.eV<1000000000) then (⟨l.cap,l.queue++[r],l.fh-1,l.back,l.eV+1,l.dO⟩,true) else (l,false)
def dJ(l:bC):bC×aA×Bool:=
 if k9 l then match l.queue with
  | []=>(l,Fe,false)
  | r::q=>(⟨l.cap,q,l.fh,l.back+1,l.eV,l.dO+1⟩,r,true)
 else (l,Fe,false)
def gw(l:bC):bC×Bool:=
 if k9 l&&l.back != 0 then (⟨l.cap,l.queue,l.fh+1,l.back-1,l.eV,l.dO⟩,true) else (l,false)
def f'(g:bW)(w:aP):aP×Bool:=
 if fa g&&fz g w then match w.ck,w.queue with
  | [],r::q=>(⟨q,(dL g w.cells r).2.1,w.bT,(dL g w.cells r).1,w.bK,w.bL,(if ct g r then w.bA.set r.bc.a8.toNat true else w.bA),w.cu⟩,true)
  | _,_=>(w,false)
 else (w,false)
def ga(g:bW)(w:aP):aP×Bool:=
 if fa g&&fz g w then match w.ck,w.queue,w.bT with
  | [],[],r::t=>(⟨[r],[],t,w.cells,w.bK,w.bL,w.bA,w.cu⟩,true)
  | _,_,_=>(w,false)
 else (w,false)
def iP(w:aP)(t:List aA):aP:=⟨w.queue,t,w.bT,w.cells,w.bK,w.bL,w.bA,w.cu⟩
def kept(w:aP)(r:aA):aP:=⟨w.queue++[r],w.ck,w.bT,w.cells,w.bK,w.bL,w.bA,w.cu⟩
def hV(w:aP)(r:aA):aP:=⟨w.queue++[r],w.ck,w.bT,w.cells,kX w.bK r.bc.a8 (-1),w.bL.set r.bc.a8.toNat true,w.bA,w.cu⟩
def ma(w:aP)(e:Int):aP:=⟨w.queue,w.ck,w.bT,w.cells,kX w.bK e 1,w.bL,w.bA,w.cu⟩
def eg(w:aP)(e:Int):aP:=⟨w.queue,w.ck,w.bT,w.cells,w.bK,w.bL.set e.toNat false,w.bA,w.cu⟩
def told(w:aP)(e:Int)(b:Bool):aP:=⟨w.queue,w.ck,w.bT,w.cells,w.bK,w.bL,w.bA,w.cu++[⟨e,b⟩]⟩
def dZ(w:aP)(n:cA):aP:=if eD w n.a8 then w else told w n.a8 n.ct
def Bu(w:aP)(e:Int):Bool:=w.bT.any fun r=>decide (r.bc.a8<=e)
def RD(w:aP)(e:Int):Nat:=(mU e w.queue).length+(mU e w.ck).length
def k'(w:aP)(e:Int):Bool:=!Bu w e&&RD w e==0
def setW(c:aU)(i:Int)(x:aP):aU:=⟨c.aF,c.ap.set i.toNat x,c.bQ,c.tokens,c.news⟩
def c0(c:aU)(i:Int)(l:bC):aU:=⟨c.aF,c.ap,c.bQ.set i.toNat l,c.tokens,c.news⟩
def cP(c:aU)(i:Int)(t:b'):aU:=⟨c.aF,c.ap,c.bQ,c.tokens.set i.toNat t,c.news⟩
def gd(c:aU)(n:List cA):aU:=⟨c.aF,c.ap,c.bQ,c.tokens,n⟩
def b9(c:aU)(i:Int):Option aP:=if 0<=i then c.ap[i.toNat]? else none
def ee(c:aU)(i:Int):Option bC:=if 0<=i then c.bQ[i.toNat]? else none
def hg(c:aU)(i:Int):Option b':=if 0<=i then c.tokens[i.toNat]? else none
def dF(g:bW)(a b:Int):Int:=if aW a 0 (g.ap-1)&&aW b 0 (g.ap-1) then a*g.ap+b else -1
def mb(c:aU)(w:Int):aU×Bool:=
 if cF c then match b9 c w with
  | some x=>(setW c w (f' c.aF x).1,(f' c.aF x).2)
  | none=>(c,false)
 else (c,false)
def mc(c:aU)(w:Int):aU×Bool:=
 if cF c then match b9 c w with
  | some x=>(setW c w (ga c.aF x).1,(ga c.aF x).2)
  | none=>(c,false)
 else (c,false)
def qC(c:aU)(w:Int)(x:aP)(r:aA)(t:List aA)(o:Int):aU×Bool:=
 if o=w then (setW c w (kept (iP x t) r),true)
 else match ee c (dF c.aF w o) with
  | some l=>if (eI l r).2 then (setW (c0 c (dF c.aF w o) (eI l r).1) w (ma (iP x t) r.bc.a8),true) else (c,false)
  | none=>(c,false)
def lF(c:aU)(w:Int):aU×Bool:=
 if cF c then match b9 c w with
  | some x=>match x.ck with
   | r::t=>qC c w x r t (eE r.key c.aF.ap)
   | []=>(c,false)
  | none=>(c,false)
 else (c,false)
def lG(c:aU)(a b:Int):aU×Bool:=
 if cF c&&a != b then match ee c (dF c.aF a b),b9 c b with
  | some l,some x=>if (dJ l).2.2 then (setW (c0 c (dF c.aF a b) (dJ l).1) b (hV x (dJ l).2.1),true) else (c,false)
  | _,_=>(c,false)
 else (c,false)
def k2(c:aU)(a b:Int):aU×Bool:=
 if cF c&&a != b then match ee c (dF c.aF a b) with
  | some l=>(c0 c (dF c.aF a b) (gw l).1,(gw l).2)
  | none=>(c,false)
 else (c,false)
def hy(n:Nat)(e:Int)(b:Bool):List cA:=(List.range n).map fun k:Nat=>⟨(k:Int)+1,e,b⟩
def d'(c:aU)(e:Int)(t:b')(x:aP):aU×Bool:=
 if k' x e then
  if !t.going then (setW (cP c e ⟨true,(c.ap.length:Int)-1,0,false,x.bA.getD e.toNat false⟩) t.place (eg x e),true)
  else if 0<t.place then
   if aW (t.sum+x.bK.getD e.toNat 0) (-1000000) 1000000 then
    (setW (cP c e ⟨true,t.place-1,t.sum+x.bK.getD e.toNat 0,t.bL||x.bL.getD e.toNat false,t.ct||x.bA.getD e.toNat false⟩) t.place (eg x e),true)
   else (c,false)
  else if !t.bL&&!x.bL.getD e.toNat false&&t.sum+x.bK.getD e.toNat 0==0 then
   (gd (setW (cP c e ⟨false,t.place,t.sum,t.bL,t.ct⟩) 0 (told x e (t.ct||x.bA.getD e.toNat false))) (c.news++hy (c.ap.length-1) e (t.ct||x.bA.getD e.toNat false)),true)
  else (cP c e ⟨false,t.place,t.sum,t.bL,t.ct⟩,true)
 else (c,false)
def kK(c:aU)(e:Int):aU×Bool:=
 if cF c&&aW e 0 3 then match b9 c 0,hg c e with
  | some cJ,some t=>if eD cJ e then (c,false) else match b9 c t.place with
   | some x=>d' c e t x
   | none=>(c,false)
  | _,_=>(c,false)
 else (c,false)
def lH(c:aU)(w:Int):aU×Bool:=
 match c.news.findIdx? (fun n=>n.dest==w) with
 | some k=>if cF c then match c.news[k]?,b9 c w with
   | some n,some x=>(gd (setW c w (dZ x n)) (cutAt c.news k),true)
   | _,_=>(c,false)
  else (c,false)
 | none=>(c,false)
def de(c:aU)(p:cE):aU×Bool:=
 if p.kind=1 then mb c p.a else if p.kind=2 then mc c p.a else if p.kind=3 then lF c p.a
 else if p.kind=4 then lG c p.a p.b else if p.kind=5 then k2 c p.a p.b else if p.kind=6 then kK c p.a
 else if p.kind=7 then lH c p.a else (c,false)
end Go.Proofs.YtdchjefneblpgaaGreat
namespace Go.Proofs.YtdchjefneblpgaaGreat
open Go.Sx Go.RowKit Go.Proofs.Tryz
section
variable {α : Type}
theorem Kp{p:α->Bool}{xs:List α}{i:Nat}{x:α}(h:xs.any p=false)(hi:i<xs.length):(xs.set i x).any p=p x:=by
 cases aa:p x with
 | true=>exact lg.2 ⟨x,List.mem_iff_getElem.2 ⟨i,by simpa using hi,by simp⟩,aa⟩
 | false=>
  rw[eW]at h ⊢;intro a ag;rcases hn ag with h1 | rfl
  ·exact h a h1
  simp[aa]
theorem RE{p:Nat->α->Bool}{x:α}:∀{xs:List α} {k i:Nat},anyI p k xs=false->i<xs.length->anyI p k (xs.set i x)=p (k+i) x
 | [],_,_,_,h=>by simp at h
 | a::xs,k,0,h,_=>by
  simp only[anyI,gz]at h;simp only[List.set_cons_zero,anyI,h.2,Bool.or_false,mq]
 | a::xs,k,i+1,h,hi=>by
  simp only[anyI,gz]at h;simp only[List.set_cons_succ,anyI,h.1,ml];rw[RE h.2 (by simpa using hi),show k+1+i=k+(i+1) by omega]
theorem yN{p:Nat->α->Bool}{xs:List α}(h:∀i a,xs[i]?=some a->p i a=false):anyI p 0 xs=false:=by
 cases aa:anyI p 0 xs with
 | false=>rfl
 | true=>
  obtain⟨i,a,h1,U,_⟩:=Jh aa;rw[c',h i a h1]at U;cases U
theorem D1{p:Nat->α->Bool}{xs:List α}(h:anyI p 0 xs=false){i:Nat}{a:α}(ag:xs[i]?=some a):p i a=false:=by
 have:=AT h i a ag;rwa[c']at this
end
variable{c:aU}
theorem fU:cF c=true<->fa c.aF=true/\(c.ap.length:Int)=c.aF.ap/\(c.bQ.length:Int)=c.aF.ap*c.aF.ap/\c.tokens.length=4/\(c.ap.any fun w=>!fz c.aF w)=false/\anyI (lE c.aF) 0 c.bQ=false/\c.tokens.any (nT c.aF.ap)=false/\c.news.any (nU c.aF.ap)=false:=by
 simp only[cF,ca,fr,eu]
variable{i:Int}{x:aP}
theorem er(h:b9 c i=some x):0<=i/\i.toNat<c.ap.length/\c.ap[i.toNat]?=some x:=by
 unfold b9 at h;split at h
 ·exact⟨‹_›,bh h,h⟩
 cases h
theorem iq{x:bC}(h:ee c i=some x):0<=i/\i.toNat<c.bQ.length/\c.bQ[i.toNat]?=some x:=by
 unfold ee at h;split at h
 ·exact⟨‹_›,bh h,h⟩
 cases h
theorem wR{x:b'}(h:hg c i=some x):0<=i/\i.toNat<c.tokens.length/\c.tokens[i.toNat]?=some x:=by
 unfold hg at h;split at h
 ·exact⟨‹_›,bh h,h⟩
 cases h
theorem uF{y:aP}(h:cF c=true)(a1:b9 c i=some y):cF (setW c i x)=fz c.aF x:=by
 obtain⟨h1,U,au,aH,ba,br,b7,dV⟩:=fU.1 h;have hi:=(er a1).2.1;simp only[cF,setW,eQ,Kp ba hi,h1,U,au,aH,br,b7,dV,xg,nZ,tr,lM,Bool.not_not]
theorem Kq{x y:bC}(h:cF c=true)(a1:ee c i=some y):cF (c0 c i x)=!lE c.aF i.toNat x:=by
 obtain⟨h1,U,au,aH,ba,br,b7,dV⟩:=fU.1 h;have hi:=(iq a1).2.1;simp only[cF,c0,eQ,RE br hi,c',h1,U,au,aH,ba,b7,dV,xg,nZ,tr,lM]
theorem acH{x y:b'}(h:cF c=true)(a1:hg c i=some y):cF (cP c i x)=!nT c.aF.ap x:=by
 obtain⟨h1,U,au,aH,ba,br,b7,dV⟩:=fU.1 h;have hi:=(wR a1).2.1;simp only[cF,cP,eQ,Kp b7 hi,h1,U,au,aH,ba,br,dV,xg,nZ,tr,lM]
theorem RF{x:List cA}(h:cF c=true):cF (gd c x)=!(x.any (nU c.aF.ap)):=by
 obtain⟨h1,U,au,aH,ba,br,b7,dV⟩:=fU.1 h;simp only[cF,gd,h1,U,au,aH,ba,br,b7,xg,nZ,lM]
theorem jH(h:cF c=true)(aa:b9 c i=some x):fz c.aF x=true:=by
 have ba:=(fU.1 h).2.2.2.2.1;rw[eW]at ba;simpa using ba x (c8 (er aa).2.2)
theorem rI{x:bC}(h:cF c=true)(aa:ee c i=some x):lE c.aF i.toNat x=false:=
 D1 (fU.1 h).2.2.2.2.2.1 (iq aa).2.2
theorem yO{x:b'}(h:cF c=true)(aa:hg c i=some x):nT c.aF.ap x=false:=by
 have ba:=(fU.1 h).2.2.2.2.2.2.1;rw[eW]at ba;simpa using ba x (c8 (wR aa).2.2)
theorem uG(aa:b9 c i=some x):setW c i x=c:=by
 obtain⟨_,U,au⟩:=er aa;have:c.ap.set i.toNat x=c.ap:=by
  rw[fC U]at au;rw[<-ei au];exact List.set_getElem_self U
 unfold setW;rw[this]
theorem acI{x:bC}(aa:ee c i=some x):c0 c i x=c:=by
 obtain⟨_,U,au⟩:=iq aa;have:c.bQ.set i.toNat x=c.bQ:=by
  rw[fC U]at au;rw[<-ei au];exact List.set_getElem_self U
 unfold c0;rw[this]
variable{g:bW}{w:aP}
theorem h6:fz g w=true<->hU g w.queue=true/\hU g w.ck=true/\hU g w.bT=true/\lD w.cells=true/\w.bK.length=4/\w.bL.length=4/\w.bA.length=4/\anyI (nF w.bT) 0 w.bT=false/\w.bK.any qA=false/\anyI (qB w.cu) 0 w.cu=false:=by
 simp only[fz,ca,fr,eu]
variable{r:aA}
theorem qj{q:List aA}:hU g (r::q)=true<->km g r=false/\hU g q=true:=by
 simp only[hU,u2,fr,gz]
theorem Kr{q:List aA}:hU g (q++[r])=true<->hU g q=true/\km g r=false:=by
 simp only[hU,List.any_append,u2,List.any_nil,Bool.or_false,fr,gz]
theorem acJ{t:List aA}(h:anyI (nF (r::t)) 0 (r::t)=false):anyI (nF t) 0 t=false:=by
 refine yN fun i a ag=>?_
 have k:=D1 h (i:=i+1) (a:=a) (by simpa using ag);unfold nF at k ⊢;rw[gz]at k ⊢;refine⟨k.1,?_⟩;cases i with
 | zero=>rfl
 | succ j=>simpa using k.2
theorem aec{xs:List dA}{d:dA}(h:anyI (qB xs) 0 xs=false)(h1:aW d.a8 0 3=true)(U:(xs.any fun q=>q.a8==d.a8)=false):anyI (qB (xs++[d])) 0 (xs++[d])=false:=by
 refine yN fun i a ag=>?_
 by_cases hi:i<xs.length
 ·rw[xf hi]at ag;have k:=D1 h ag;unfold qB at k ⊢;rw[ME (by omega)];exact k
 have af:=bh ag;simp only[eK,dn,b1]at af;have e:i=xs.length:=by omega
 subst e;rw[rY (dm _),Nat.sub_self]at ag;obtain rfl:d=a:=by simpa using ag
 unfold qB;rw[ME (dm _),hP,h1,U];rfl
theorem aed(h:fz g w=true)(ar:km g r=false):fz g (kept w r)=true:=by
 obtain⟨h1,U⟩:=h6.1 h;exact h6.2 ⟨Kr.2 ⟨h1,ar⟩,U⟩
theorem Ks{t:List aA}(h:fz g w=true)(ae:w.ck=r::t):fz g (iP w t)=true/\km g r=false:=by
 obtain⟨h1,U,au⟩:=h6.1 h;rw[ae,qj]at U;exact⟨h6.2 ⟨h1,U.2,au⟩,U.1⟩
variable{e:Int}
theorem aee(h:fz g w=true):fz g (eg w e)=true:=by
 obtain⟨h1,U,au,aH,ba,br,b7⟩:=h6.1 h;exact h6.2 ⟨h1,U,au,aH,ba,by simp only[eg,eQ];exact br,b7⟩
theorem RG{b:Bool}(h:fz g w=true)(he:aW e 0 3=true)(ax:eD w e=false):fz g (told w e b)=true:=by
 obtain⟨h1,U,au,aH,ba,br,b7,dV,e5,ek⟩:=h6.1 h;exact h6.2 ⟨h1,U,au,aH,ba,br,b7,dV,e5,aec ek he ax⟩
theorem aef{n:cA}(h:fz g w=true)(he:aW n.a8 0 3=true):fz g (dZ w n)=true:=by
 unfold dZ;cases ax:eD w n.a8 with
 | true=>exact h
 | false=>exact RG h he ax
theorem RH{e d:Int}{k:Nat}(h:fz g w=true)(hk:e.toNat=k)(aH:k<4):(kX w.bK e d).length=4/\(kX w.bK e d).any qA=qA (w.bK.getD e.toNat 0+d):=by
 obtain⟨h1,U,au,_,ba,br,b7,dV,e5,ek⟩:=h6.1 h;exact⟨by simp only[kX,eQ];exact ba,Kp e5 (by omega)⟩
theorem uH{g:bW}(h:km g r=false):0<=r.bc.a8/\r.bc.a8<=3:=by
 simp only[km,fZ,k6,aW,gz,lf,ca,ci]at h;omega
theorem aeg(h:fz g w=true)(he:0<=e/\e<=3):fz g (ma w e)=aW (w.bK.getD e.toNat 0+1) (-1000000) 1000000:=by
 obtain⟨cC,b6⟩:=RH (d:=1) h (e:=e) rfl (by omega);obtain⟨h1,U,au,aH,ba,br,b7,dV,e5,ek⟩:=h6.1 h;simp only[fz,ma,h1,U,au,aH,cC,br,b7,dV,ek,b6,qA,xg,nZ,tr,lM,Bool.not_not]
theorem aeh(h:fz g w=true)(ar:km g r=false):fz g (hV w r)=aW (w.bK.getD r.bc.a8.toNat 0+-1) (-1000000) 1000000:=by
 have he:=uH ar;obtain⟨cC,b6⟩:=RH (d:=-1) h (e:=r.bc.a8) rfl (by omega);obtain⟨h1,U,au,aH,ba,br,b7,dV,e5,ek⟩:=h6.1 h;have av:=Kr.2 ⟨h1,ar⟩;simp only[fz,hV,av,U,au,aH,cC,eQ,br,b7,dV,ek,b6,qA,xg,nZ,tr,lM,Bool.not_not]
theorem aei(h:fz g w=true):fz g (ga g w).1=true:=by
 unfold ga;split
 ·split
  ·rename_i r t h1 U au;obtain⟨_,_,eH,l1,kG,ov,kf,ow,sL,HH⟩:=h6.1 h;rw[au]at eH ow;exact h6.2 ⟨qj.2 ⟨(qj.1 eH).1,rfl⟩,rfl,(qj.1 eH).2,l1,kG,ov,kf,acJ ow,sL,HH⟩
  exact h
 exact h
theorem aej:∀{xs:List Cell},lD xs=true->∀i a b,xs[i]?=some a->xs[i+1]?=some b->ik a b<0:=by
 intro xs h i a b h1 U;simp only[lD,fr,eW]at h;have hm:(a,b)∈xs.zip (xs.drop 1):=by
  refine c8 (i:=i) ?_;rw[List.getElem?_zip_eq_some];exact⟨h1,by rw[gV,Nat.add_comm];exact U⟩
 have:=h _ hm;simp only[Kl,ci]at this;omega
def uI(a:Cell):List Int:=[a.a8,a.op,a.key,a.val]
theorem RI(a b:Cell):ik a b=jU (uI a) (uI b):=rfl
theorem Kt{a b c:Cell}(h1:ik a b<0)(U:ik b c<0):ik a c<0:=by
 rw[RI] at*;exact I3 (uI a) (uI b) (uI c) rfl rfl h1 U
theorem aek{a b:Cell}(h1:¬ik a b<0)(U:a≠b):ik b a<0:=by
 rw[RI] at*;refine Classical.byContradiction fun h=>U ?_
 have:=I4 (uI a) (uI b) rfl h1 h;simp only[uI,r0,and_true]at this;obtain⟨kp,gM,hY,pK⟩:=this;cases a;cases b;simp only[Cell.mk.injEq];exact⟨gM,kp,hY,pK⟩
theorem RJ:∀{xs:List Cell},lD xs=true->xs.Pairwise fun a b=>ik a b<0
 | [],_=>List.Pairwise.nil
 | [a],_=>List.pairwise_singleton _ a
 | a::b::xs,h=>by
  have bt:lD (b::xs)=true:=by
   simp only[lD,List.drop_succ_cons,oX,List.zip_cons_cons,u2,Bool.not_or,ca]at h ⊢;exact h.2
  have ae:=RJ bt;have dW:=aej h 0 a b rfl rfl;refine List.Pairwise.cons (fun c ad=>?_) ae;rcases dG.1 ad with rfl | ad
  ·exact dW
  exact Kt dW ((List.pairwise_cons.1 ae).1 c ad)
variable{xs:List Cell}
theorem RK(h:xs.Pairwise fun a b=>ik a b<0):lD xs=true:=by
 simp only[lD,fr,eW];rintro⟨a,b⟩ hp;obtain⟨i,hi⟩:=List.getElem?_of_mem hp;obtain⟨h1,U⟩:=Km hi;have aM:=bh U;have:=List.pairwise_iff_getElem.1 h i (i+1) (by omega) aM (by omega);rw[fC (by omega)]at h1 U;rw[ei h1,ei U]at this;replace this:ik a b<0:=this;show ¬decide (ik a b>=0)=true;simp only[ci];omega
theorem RL(x:Cell)(h:xs.Pairwise fun a b=>ik a b<0):(kk xs x).Pairwise fun a b=>ik a b<0:=by
 unfold kk;split
 ·exact h
 rename_i gi;have aa:∀a∈xs,a≠x:=by
  intro a ag e;exact gi (lg.2 ⟨a,ag,by simp[e]⟩)
 have ah:∀i a,xs[i]?=some a->i<lC xs x->ik a x<0:=by
  intro i a ag hi;unfold lC at hi;cases bl:xs.findIdx? (fun a=>!decide (ik a x<0)) with
  | none=>
   rw[Cj]at bl;simpa using bl a (c8 ag)
  | some k=>
   rw[bl]at hi;simp only[hl]at hi;rw[qK]at bl;obtain⟨hk,_,au⟩:=bl;have:=au i hi;rw[fC (by omega)]at ag;rw[ei ag]at this;simpa using this
 have ag:∀i a,xs[i]?=some a->lC xs x<=i->ik x a<0:=by
  intro i a ag hi;have hk:lC xs x<xs.length:=by have:=bh ag;omega
  obtain⟨b,gg⟩:=dv hk;have bm:¬ik b x<0:=by
   unfold lC at gg hk;cases bl:xs.findIdx? (fun a=>!decide (ik a x<0)) with
   | none=>rw[bl]at hk;simp at hk
   | some k=>
    rw[bl]at gg;simp only[hl]at gg;rw[qK]at bl;obtain⟨q7,U,_⟩:=bl;rw[fC q7]at gg;rw[ei gg]at U;simpa using U
  have N6:=aek bm (aa b (c8 gg));rcases Nat.lt_or_eq_of_le hi with bq | heq
  ·have aM:=bh ag;have:=List.pairwise_iff_getElem.1 h (lC xs x) i hk aM bq;rw[fC hk]at gg;rw[fC aM]at ag;rw[ei gg,ei ag]at this;exact Kt N6 this
  rw[heq,ag]at gg;rw[ei gg];exact N6
 rw[List.pairwise_append];refine⟨h.sublist (List.take_sublist _ _),List.Pairwise.cons (fun c ad=>?_) (h.sublist (List.drop_sublist _ _)),fun a Gy c ad=>?_⟩
 ·obtain⟨i,hi⟩:=List.getElem?_of_mem ad;rw[gV]at hi;exact ag _ _ hi (by omega)
 obtain⟨i,hi⟩:=List.getElem?_of_mem Gy;rw[gX]at hi;split at hi
 ·rename_i bq;have h1:=ah i a hi bq;rcases dG.1 ad with rfl | ad
  ·exact h1
  obtain⟨j,aM⟩:=List.getElem?_of_mem ad;rw[gV]at aM;exact Kt h1 (ag _ _ aM (by omega))
 cases hi
theorem ael(kind:Int)(x:Cell)(h:lD xs=true):lD (cR kind xs x).1=true:=by
 have ae:=RJ h;have h1:=RK (RL x ae);have U:=RK (RL x (ae.sublist (List.filter_sublist (p:=fun a=>!fT x a))));unfold cR;split
 ·split
  ·exact h
  exact h1
 split
 ·unfold k8;split
  ·exact h
  exact U
 exact h
theorem aem{cs:List Cell}(r:aA)(h:lD cs=true):lD (dL g cs r).1=true:=by
 unfold dL;cases fY g r.op with
 | none=>exact h
 | some x=>
  have ar:=ael x.kind ⟨r.op,r.bc.a8,r.key,r.val⟩ h;simp only[e8];split
  ·split
   ·exact h
   split
   ·exact ar
   split
   ·exact ar
   exact ar
  exact h
theorem aen{x:Node}{k v:Int}(aa:bM x=true)(hi:iO k v=true):iO (dc x k v).1 (dc x k v).2.1=true:=by
 have lr:=aa;simp only[bM,ca]at aa;have ag:=aa.1.1.1.1;have ka:=hi;simp only[iO,aW,ca,ci]at hi;unfold dc;rw[lr,ka,Bool.and_self,a6 rfl];unfold ez at ag;split
 ·rename_i U;rw[a6 U]at ag;simp only[aW,ca,ci]at ag;have af:0<=less (v+x.a) 999/\less (v+x.a) 999<=999:=by unfold less;split<;>omega
  simp only[iO,aW,ca,ci];omega
 rename_i U;rw[aX U]at ag;split
 ·rename_i aH;rw[aX (by omega),a6 aH]at ag;simp only[aW,ca,ci]at ag;simp only[iO,aW,ca,ci];rw[Int.tmod_eq_emod_of_nonneg (by omega)];omega
 split
 ·exact ka
 exact ka
theorem aeo(h:fa g=true){op:Int}{x:Node}(aL:fY g op=some x):l9 g op.toNat x=false:=by
 simp only[fa,ca,fr]at h;unfold fY at aL;split at aL
 ·exact D1 h.2 aL
 cases aL
theorem RM(h:fa g=true){op:Int}{x:Node}(aL:fY g op=some x){s:bD}{k v:Int}(ae:k6 s=true)(hi:iO k v=true):hU g (fo x s k v)=true:=by
 have ah:=aeo h aL;have aa:=Kk h aL;simp only[bM,ca]at aa;simp only[l9,gz]at ah;have he:=ah.2;rw[eW]at he;simp only[hU,fo,List.any_map,fr,eW];intro o aN;have h1:=RR aa.2 aN;have U:=he o aN;simp only[k7,lL,not_or,ci]at U;simp only[Function.comp,km,fZ,h1,ae,hi,Bool.and_self,ks,ml,ci];omega
theorem aep{cs:List Cell}:hU g (dL g cs r).2.1=true:=by
 unfold dL;cases aL:fY g r.op with
 | none=>rfl
 | some x=>
  simp only[e8];split
  ·rename_i ao;rw[ca]at ao;obtain⟨ao,ar⟩:=ao;have dy:=ar;simp only[fZ,ca]at ar;have ad:=aen (Kk ao aL) ar.2;split
   ·rfl
   split
   ·rfl
   split
   ·cases bt:(gI r.bc).2 with
    | false=>rfl
    | true=>
     refine RM ao aL ?_ ad;unfold gI at bt ⊢;split
     ·rename_i h1;simp only[ca,k6,aW,ci]at h1 ⊢;omega
     rename_i h1;rw[aX h1]at bt;cases bt
   exact RM ao aL ar.1.2 ad
  rfl
theorem aeq(h:fz g w=true):fz g (f' g w).1=true:=by
 unfold f';split
 ·split
  ·rename_i r q h1 U;obtain⟨cC,b6,eH,l1,kG,ov,kf,ow,sL,HH⟩:=h6.1 h;rw[U,qj]at cC;refine h6.2 ⟨cC.2,aep,eH,aem r l1,kG,ov,?_,ow,sL,HH⟩;split
   ·rw[eQ];exact kf
   exact kf
  exact h
 exact h
