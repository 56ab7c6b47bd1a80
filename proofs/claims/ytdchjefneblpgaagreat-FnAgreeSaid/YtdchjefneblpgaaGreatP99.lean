import Derived.Test.YtdchjefneblpgaaGreatP96
import Derived.Test.YtdchjefneblpgaaGreatP79
import Derived.Test.YtdchjefneblpgaaGreatGJ
set_option linter.unusedVariables false
set_option linter.unusedSimpArgs false
namespace Go.Proofs.YtdchjefneblpgaaGreat
open Go.Sx Go.RowKit Go.Proofs.Tryz
theorem amM(b:List Int)(c:h9)(af:c.ok b):∃(d:h9) (g:b0) (xs:List aE) (x:aU),d.ok b/\Grown g xs x/\fF x/\x.sz<=8000/\dC prog 166 [.cur (c.e b) (d.e b)] (.vals [.agg x.e]):=by
 obtain⟨d1,g,dR,ar,cw⟩:=ajJ b c af;obtain⟨d2,xs,dH,hG,gd,dt⟩:=ajI b d1 dR;obtain⟨d3,cx,gF,tK,_,eE⟩:=ajL b d2 40 (by omega) dH;obtain⟨d4,f,ph,js⟩:=Vx b d3 4 gF (by omega);have aK:=M9 ar (by omega) gd;have ai:=ar.size;have aW:=agQ aK;have nw:=agP g xs (by omega);rw[T7 aK]at nw;have dZ:=agR g xs;have iC:=amZ (fu g xs) cx (by omega) dZ;have se:=Fg cx (fu g xs);have H6:=(Ct cx (fu g xs)).dZ dZ;have uQ:=(Ct cx (fu g xs)).ay;obtain⟨P,uJ,aj⟩:=Live.new ar gd hG;subst uJ;have yM:=VI aK gd;have cV:=aj.runs cx (by omega);have PL:=n1 (MQ cx aj.run (by omega)) yM;generalize cS (fu g P.xs) cx=o at*;cases f with
 | false=>exact⟨d4,g,P.xs,o.1,ph,⟨ar,gd,hG,⟨P,_,rfl,cV.mono (T:=60000) (by omega),by omega,PL⟩,uQ⟩,H6,by omega,amK ⟨cw,dt,nw,V3 ⟨eE,iC,ae⟩,js,rfl,ae⟩⟩
 | true=>
  obtain⟨d5,n,JX,awT,nU⟩:=mq b d4 12 ph (by omega);have cR:=am4 o.1 n (by omega) H6;have bP:=Grown.fair (g:=g) ⟨P,_,rfl,cV.mono (T:=50000) (by omega),by omega,PL⟩ ar gd hG uQ n (by omega);have ao:(gr n 0 3000).toNat<=11:=by
   unfold gr;split<;>(try split)<;>(try split)<;>omega
  have aaD:=ML (gr n 0 3000).toNat o.1 0;have Yx:fF (m' o.1 n).1:=(GD (gr n 0 3000).toNat o.1 0).dZ H6;have aaE:(m' o.1 n).1.sz<=8000:=by unfold m';omega
  exact⟨d5,g,P.xs,(m' o.1 n).1,JX,bP,Yx,aaE,amJ ⟨cw,dt,nw,V3 ⟨eE,iC,ae⟩,js,rfl,amI ⟨nU,cR,ae⟩,ae⟩⟩
theorem amN(b:List Int)(ao:Bytes b):∃(g:b0) (xs:List aE) (x:aU),Grown g xs x/\fF x/\x.sz<=8000/\aw 39 [.one (.J 1 (b.map lR))] [.agg x.e]:=by
 obtain⟨c,af,il⟩:=ajG b ao;obtain⟨d,g,xs,x,_,h1,U,ax,cw⟩:=amM b c af;exact⟨g,xs,x,h1,U,ax,amL ⟨il,cw,ae⟩⟩
theorem Grown.run{g:b0}{xs:List aE}{x:aU}(h:Grown g xs x):∃(d:aU) (j:Nat) (P:kI) (T:Int),m' x 3000=(d,j)/\j<3000/\Live P T d/\T<=200000/\d.ay=x.ay/\yg d/\∀p∈fD d,(cY d p).2=false:=by
 obtain⟨P,S,uJ,aj,hz,yM⟩:=h.live;obtain⟨d,j,T,e⟩:=amB h.drawn h.input h.few uJ aj hz yM;exact⟨d,j,P,T,e⟩
end Go.Proofs.YtdchjefneblpgaaGreat
namespace Go.Proofs.YtdchjefneblpgaaGreat
open Go.Sx Go.RowKit Go.Proofs.Tryz
theorem amO{c:aU}(h:cq c=true):DE c:=by
 obtain⟨ar,_,_,_,_,aj,_⟩:=e7.1 h;have aK:=ii ar;refine⟨⟨by omega,by omega⟩,fun l hm=>?_⟩;obtain⟨i,hi⟩:=List.getElem?_of_mem hm;obtain⟨k,_⟩:=oE.1 (xG aj hi);obtain⟨cy,_,_,_,kb,_,kU,_⟩:=nR.1 k;simp only[ap,b']at cy kb;exact⟨⟨by omega,by omega⟩,by omega⟩
end Go.Proofs.YtdchjefneblpgaaGreat
namespace Go.Proofs.YtdchjefneblpgaaGreat
open Go.Sx Go.RowKit Go.Proofs.Tryz
theorem amP(e:Int)(f:cD)(x:aU)(ai:x.sz<=8388608)(h:∀w∈x.aq,ud w e=(f,true)/\w.b1.length=4):
  c6 prog (av f5 1) (z7 e 0 f.a7 f.ca (x.ay.nodes.map Node.e) x.ay.aq x.ay.cap (x.aq.map aL.e) (x.bK.map bt.e) (x.tokens.map bQ.e) (x.news.map bT.e)) (.exit 2)
   (MT e (x.ay.nodes.map Node.e) x.ay.aq x.ay.cap (x.aq.map aL.e) (x.bK.map bt.e) (x.tokens.map bQ.e) (x.news.map bT.e)):=by
 refine eR (P:=prog) (c:=(av f5 1)) (cL 2) x.aq.length (fun w:Nat=>z7 e w f.a7 f.ca (x.ay.nodes.map Node.e) x.ay.aq x.ay.cap (x.aq.map aL.e) (x.bK.map bt.e) (x.tokens.map bQ.e) (x.news.map bT.e)) (fun w hw=>?_) (amo ⟨ec,ae⟩);obtain⟨a,ad⟩:=dm hw;have aB:=V1 a e (aU.x6 ai (cG ad));obtain⟨h1,U⟩:=h a (cG ad);rw[h1]at aB;have o8:=aU.x5 ai;exact amn ⟨b4 hw,bH,bL hw,bI aL.e ad,aB,rfl,by simp,bH,bL hw,bI aL.e ad,by simp[U],du hw o8,ae⟩
theorem amQ(x:aU)(ai:x.sz<=8388608)(h:∀e:Int,0<=e/\e<=3->∃f:cD,(∀w∈x.aq,ud w e=(f,true)/\w.b1.length=4)/\BE x e=0){w:aL}(bl:x.aq[0]?=some w):
  c6 prog (av f5 0) (z6 0 (x.ay.nodes.map Node.e) x.ay.aq x.ay.cap (x.aq.map aL.e) (x.bK.map bt.e) (x.tokens.map bQ.e) (x.news.map bT.e)) (.exit 0)
   (MU (x.ay.nodes.map Node.e) x.ay.aq x.ay.cap (x.aq.map aL.e) (x.bK.map bt.e) (x.tokens.map bQ.e) (x.news.map bT.e)):=by
 refine eR (P:=prog) (c:=(av f5 0)) (cL 0) 4 (fun e:Nat=>z6 e (x.ay.nodes.map Node.e) x.ay.aq x.ay.cap (x.aq.map aL.e) (x.bK.map bt.e) (x.tokens.map bQ.e) (x.news.map bT.e)) (fun e he=>?_) (amq ⟨ee (by omega),ae⟩);obtain⟨f,h1,U⟩:=h e (by omega);have aB:=V1 w e (aU.x6 ai (cG bl));rw[(h1 w (cG bl)).1]at aB;have aj:=aX bl;have OX:=afy x e ai;rw[U]at OX;exact amp ⟨dr (by omega),by decide,by simp;omega,bI aL.e (i:=0) bl,aB,rfl,amP e f x ai h1,OX,rfl,⟨by omega,by omega⟩,ae⟩
theorem amR(b:List Int)(ao:∀a∈b,(fun n=>0<=n/\n<=255) a):aw 5 [.one (.J 1 (b.map lR))] [.one (B true)]:=by
 by_cases D7:(b.length:Int)>1048576
 ·have:=V4 (b.map lR) trivial;rw[nh (by simpa using D7)]at this;exact amm ⟨this,rfl,ae⟩
 have big:=V4 (b.map lR) trivial;rw[oN (by simpa using D7)]at big;obtain⟨g,xs,x,uQ,dZ,c7,draw⟩:=amN b ⟨by omega,ao⟩;obtain⟨d,j,P,T,e1,e2,aj,gO,ko,tt,_⟩:=uQ.run;have cR:=am5 x 3000 (by omega) dZ;have aW:=ML (gr 3000 0 3000).toNat x 0;have o8:=(GD (gr 3000 0 3000).toNat x 0).x4;change (m' x 3000).1.sz<=_ at aW;change (m' x 3000).1.aq.length=_ at o8;rw[e1]at cR aW o8;dsimp only at cR aW o8;have yE:(gr 3000 0 3000).toNat=3000:=by decide
 rw[yE]at aW;have ok:=aj.run.all.ok;obtain⟨ar,hw,_⟩:=e7.1 ok;have aK:=ii ar;obtain⟨w0,bl⟩:=dm (xs:=d.aq) (i:=0) (by omega);have l:=amQ d (by omega) (fun e he=>by
  obtain⟨f,f1,_⟩:=amD aj tt he;exact⟨f,fun w hw=>⟨f1 w hw,amG aj tt hw⟩,amH aj gO tt he⟩) bl
 have OV:=afw d (by omega) (amO ok);rw[aj.run.all.Yg]at OV;exact amr ⟨big,rfl,draw,cR,by simp[o8],l,OV,ae⟩
