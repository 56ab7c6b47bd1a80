import Derived.Test.YtdchjefneblpgaaGreatP43
set_option linter.unusedVariables false
set_option linter.unusedSimpArgs false
namespace Go.Proofs.YtdchjefneblpgaaGreat
open Go.Sx Go.RowKit Go.Proofs.Tryz
variable{c:a'}{i:Int}
theorem YD{t:b4}(h:kD c i=some t):0<=i/\i<(↑(c.tokens.map b4.e).length:Int)/\(c.tokens.map b4.e)[i.toNat]?=some t.e:=by
 obtain⟨h1,U,ax⟩:=Gn h;exact⟨h1,by rw[bl];omega,bN b4.e ax⟩
variable{e:Int}
theorem yO{xs:List Int}(aF:xs.length=4)(he:0<=e/\e<=3):e<(↑(xs.map bh).length:Int)/\(xs.map bh)[e.toNat]?=some [I (xs.getD e.toNat 0)]:=by
 have ap:e.toNat<xs.length:=by omega
 refine⟨by rw[bl];omega,?_⟩;rw[dq,fJ ap,jB,fJ ap];rfl
theorem rW{xs:List Bool}(aF:xs.length=4)(he:0<=e/\e<=3):e<(↑(xs.map cD).length:Int)/\(xs.map cD)[e.toNat]?=some [B (xs.getD e.toNat false)]:=by
 have ap:e.toNat<xs.length:=by omega
 refine⟨by rw[bl];omega,?_⟩;rw[dq,fJ ap,jB,fJ ap];rfl
variable{l:List (List D)}{a:List D}
theorem ia(bG:0<=i)(h:i<(↑l.length:Int)):(l.set i.toNat a)[i.toNat]?=some a:=List.getElem?_set_self (by omega)
theorem uI{b:List D}(bG:0<=i)(h:i<(↑l.length:Int)):((l.set i.toNat a).set i.toNat b)[i.toNat]?=some b:=by rw[qu];exact ia bG h
theorem uJ{b d:List D}(bG:0<=i)(h:i<(↑l.length:Int)):(((l.set i.toNat a).set i.toNat b).set i.toNat d)[i.toNat]?=some d:=by rw[qu,qu];exact ia bG h
theorem Gf(x:aP)(e:Int):(gR x e).e=[.J 5 (x.queue.map aq.e),.J 5 (x.cj.map aq.e),.J 5 (x.bO.map aq.e),.J 4 (x.cells.map Cell.e),.J 1 (x.bL.map bh),.J 1 ((x.bU.map cD).set e.toNat [B false]),.J 1 (x.bx.map cD),.J 2 (x.b8.map cR.e)]:=by
 simp only[gR,aP.e,h6];rfl
theorem YE(x:aP)(e:Int)(b:Bool):(told x e b).e=[.J 5 (x.queue.map aq.e),.J 5 (x.cj.map aq.e),.J 5 (x.bO.map aq.e),.J 4 (x.cells.map Cell.e),.J 1 (x.bL.map bh),.J 1 (x.bU.map cD),.J 1 (x.bx.map cD),.J 2 (x.b8.map cR.e++[[I e,B b]])]:=by
 simp only[told,aP.e,fQ];rfl
theorem YF(c:a')(e p:Int)(t:b4)(y:aP):(setW (eg c e t) p y).e=[.J 4 (c.aE.nodes.map Node.e),I c.aE.az,I c.aE.cap,.J 8 ((c.az.map aP.e).set p.toNat y.e),.J 6 (c.bP.map bw.e),.J 5 ((c.tokens.map b4.e).set e.toNat t.e),.J 3 (c.news.map b1.e)]:=by
 simp only[setW,eg,a'.e,h6]
theorem OS(c:a')(e:Int)(t:b4):(eg c e t).e=[.J 4 (c.aE.nodes.map Node.e),I c.aE.az,I c.aE.cap,.J 8 (c.az.map aP.e),.J 6 (c.bP.map bw.e),.J 5 ((c.tokens.map b4.e).set e.toNat t.e),.J 3 (c.news.map b1.e)]:=by
 simp only[eg,a'.e,h6]
theorem YG(c:a')(e p:Int)(t:b4)(y:aP)(b:Bool):ng (setW (eg c e t) p y) b=[.J 4 (c.aE.nodes.map Node.e),I c.aE.az,I c.aE.cap,.J 8 ((c.az.map aP.e).set p.toNat y.e),.J 6 (c.bP.map bw.e),.J 5 ((c.tokens.map b4.e).set e.toNat t.e),.J 3 (c.news.map b1.e),B b]:=by
 simp only[setW,eg,ng,h6]
theorem asy(c:a')(e:Int)(t:b4)(b:Bool):ng (eg c e t) b=[.J 4 (c.aE.nodes.map Node.e),I c.aE.az,I c.aE.cap,.J 8 (c.az.map aP.e),.J 6 (c.bP.map bw.e),.J 5 ((c.tokens.map b4.e).set e.toNat t.e),.J 3 (c.news.map b1.e),B b]:=by
 simp only[eg,ng,h6]
theorem OT(n:Nat)(e:Int)(b:Bool):hR (n+1) e b=hR n e b++[⟨(n:Int)+1,e,b⟩]:=by simp[hR,List.range_succ]
theorem Oc(n:Nat)(e:Int)(b:Bool):(hR n e b).length=n:=by simp[hR]
theorem YH{ff x:aP}{t:b4}(ok:cU c=true)(he:aw e 0 3=true)(bG:dh c 0=some ff)(bT:kD c e=some t)(aG:ja ff e=false)(ah:dh c t.place=some x):je c e=eN c e t x:=by
 unfold je;simp only[ok,he,Bool.and_self,fX,bG,bT,aG,nY,lP,ah]
theorem YI(ok:cU c=true)(he:aw e 0 3=true):∃ff t x,dh c 0=some ff/\kD c e=some t/\dh c t.place=some x/\0<c.az.length/\c.az.length<=4/\
  (0<=t.place/\t.place<=3)/\(t.going=false->t.place=0)/\(-1000000<=t.sum/\t.sum<=1000000)/\x.bL.length=4/\x.bU.length=4/\x.bx.length=4/\(-1000000<=x.bL.getD e.toNat 0/\x.bL.getD e.toNat 0<=1000000):=by
 obtain⟨h1,U,ax,aF,aZ,bB,bS,dv⟩:=ix.1 ok;have aX:=mZ h1;obtain⟨ff,bG⟩:=CD (c:=c) (i:=0) (by omega) (by omega);obtain⟨t,bT⟩:=alb ok he;obtain⟨t1,t2,t3⟩:=zD.1 (NO ok bT);obtain⟨x,ah⟩:=CD (c:=c) (i:=t.place) (by omega) (by omega);obtain⟨_,_,_,_,kR,pb,kt,_,tA,_⟩:=ke.1 (m' ok ah);refine⟨ff,t,x,bG,bT,ah,by omega,by omega,by omega,t2,t3,kR,pb,kt,?_⟩;simp only[aw,cV]at he;have ap:e.toNat<x.bL.length:=by omega
 rw[ik]at tA;have:=tA _ (nn ap);rw[jB,fJ ap,il];simpa only[oE,gT,ln,aw,cV,v7,Bool.not_not,Bool.not_eq_eq_eq_not,jC,lp,Classical.not_not]using this
theorem YJ(c:a')(e:Int)(x:aP)(r:Bool)(bG:dh c 0=some x)(aG:ja x e=r)(aj:c.sz<=8388608):al 315 [.agg c.e,.one (I e)] [.one (B r)]:=by
 obtain⟨w0,w1,hE⟩:=mw bG;exact ao4 ⟨dt (by omega),w0,w1,hE,Mk x e r aG (nd bG aj),aa⟩
theorem asz(c:a')(b:Bool)(x:aP)(e:Int)(cap:Bool)(bG:dh c 0=some x)(aF:c.az.length<=4)(aj:c.sz<=8388608):
  bW prog 317 [.ref (ng c b) (ng (iL (setW c 0 (told x e cap)) (c.news++hR (c.az.length-1) e cap)) b),.ro (.one (I e)),.ro (.one (B cap))] (.vals []):=by
 obtain⟨w0,w1,hE⟩:=mw bG;have aX:=xM aj;have ao:=nd bG aj;have qR:x.b8.length<=8388608:=by simp only[aP.sz]at ao;omega
 have hlen:=(hS bG).2.1;have uM:((setW c 0 (told x e cap)).az.map aP.e).length=c.az.length:=by simp[setW]
 have l:=fC (P:=prog) (c:=(ar f317 0)) (cH 0) (c.az.length-1) (fun i:Nat=>Cl e cap ((i:Int)+1) (c.aE.nodes.map Node.e) c.aE.az c.aE.cap ((setW c 0 (told x e cap)).az.map aP.e) (c.bP.map bw.e) (c.tokens.map b4.e) ((c.news++hR i e cap).map b1.e) b) (fun i hi=>by
  have hm:=Oc i e cap;rw[OT,<-oM,fQ (l₂:=[_])];exact apU ⟨dt (by rw[uM];omega),by simp;omega,by simp;omega,dD (b1.flat ⟨(i:Int)+1,e,cap⟩),⟨by omega,by omega⟩,aa⟩) (apV ⟨dQ (by rw[uM];omega),aa⟩)
 have e2:(setW c 0 (told x e cap)).az.map aP.e=(c.az.map aP.e).set 0 [.J 5 (x.queue.map aq.e),.J 5 (x.cj.map aq.e),.J 5 (x.bO.map aq.e),.J 4 (x.cells.map Cell.e),.J 1 (x.bL.map bh),.J 1 (x.bU.map cD),.J 1 (x.bx.map cD),.J 2 (x.b8.map cR.e++[[I e,B cap]])]:=by
  rw[<-YE];exact NC.symm
 have bu:hR 0 e cap=[]:=rfl;rw[e2,bu,kE]at l;have h9:ng (iL (setW c 0 (told x e cap)) (c.news++hR (c.az.length-1) e cap)) b=[.J 4 (c.aE.nodes.map Node.e),I c.aE.az,I c.aE.cap,.J 8 ((setW c 0 (told x e cap)).az.map aP.e),.J 6 (c.bP.map bw.e),.J 5 (c.tokens.map b4.e),.J 3 ((c.news++hR (c.az.length-1) e cap).map b1.e),B b]:=rfl;rw[h9,e2];exact apW ⟨by omega,w1,hE,by simp;omega,by simp;omega,hE,rfl,dD (cR.flat ⟨e,cap⟩),rfl,rfl,rfl,rfl,rfl,rfl,rfl,by omega,w1,hE,rfl,l,aa⟩
theorem asA(c:a')(e:Int)(aj:c.sz<=8388608):bW prog 246 [.ref (gd c) (gd (je c e).1),.ro (.one (I e))] (.vals [.one (B (je c e).2)]):=by
 have post:=fun h=>alk (c:=c) (e:=e) h
 cases ok:cU c with
 | false=>
  rw[show je c e=(c,false) by unfold je;simp[ok]];simp only[gd,ok];exact apX ⟨rfl,aa⟩
 | true=>
 replace post:=post ok;cases he:aw e 0 3 with
 | false=>
  rw[show je c e=(c,false) by unfold je;simp[he]];simp only[gd,ok];exact apY ⟨rfl,gb _ he,rfl,aa⟩
 | true=>
 have he:=he;obtain⟨ff,t,x,bG,bT,ah,wI,uV,yE,Je,ac6,q4,wB,uO,sa⟩:=YI ok he;have qT:0<=e/\e<=3:=by simpa only[aw,cV]using he
 obtain⟨cp,dN,dx⟩:=YD bT;obtain⟨c0,cZ,cn⟩:=mw ah;obtain⟨aB6,oJ,oK⟩:=mw bG;obtain⟨jS,jT⟩:=yO q4 qT;obtain⟨j7,iI⟩:=rW wB qT;obtain⟨s7,s8⟩:=rW uO qT;have c':=nd ah aj;have qR:x.b8.length<=8388608:=by simp only[aP.sz]at c';omega
 have En:(↑(c.az.map aP.e).length:Int)=(c.az.length:Int):=by rw[bl]
 cases aG:ja ff e with
 | true=>
  rw[show je c e=(c,false) by unfold je;simp only[ok,he,Bool.and_self,fX,bG,bT,aG]];simp only[gd,ok];exact apZ ⟨rfl,gb _ he,rfl,YJ c e ff true bG aG aj,rfl,aa⟩
 | false=>
 rw[YH ok he bG bT aG ah]at post ⊢;have rd:=YJ c e ff false bG aG aj;have ji:=gb _ he;cases hp:k1 x e with
 | false=>
  rw[show eN c e t x=(c,false) by unfold eN;simp[hp]];simp only[gd,ok];exact ap0 ⟨rfl,ji,rfl,rd,rfl,cp,dN,dx,c0,cZ,cn,W6 x e _ hp c',rfl,aa⟩
 | true=>
 have ka:=W6 x e _ hp c';have iq:aD .i64 (t.sum+x.bL.getD e.toNat 0):=⟨by omega,by omega⟩
 simp only[gd,ok,post];clear post;obtain⟨G0,l7,ts,tb,eS⟩:=t;dsimp only at*;cases G0 with
 | false=>
  obtain rfl:l7=0:=Je rfl;rw[show eN c e ⟨false,0,ts,tb,eS⟩ x=(setW (eg c e ⟨true,(c.az.length:Int)-1,0,false,x.bx.getD e.toNat false⟩) 0 (gR x e),true) by simp only[eN,hp,fX,oN]];dsimp only;rw[YG,Gf,<-En];exact ap1 ⟨rfl,ji,rfl,rd,rfl,cp,dN,dx,c0,cZ,cn,ka,rfl,cp,jS,jT,iq,rfl,⟨by omega,by omega⟩,cp,s7,s8,cp,dN,dx,by omega,cZ,cn,cp,j7,iI,cn,rfl,rfl,rfl,rfl,rfl,aa⟩
 | true=>
 by_cases lB:0<l7
 case pos=>
  have j1:decide (l7>0)=true:=dt lB;cases aA:aw (ts+x.bL.getD e.toNat 0) (-1000000) 1000000 with
  | false=>
   rw[show eN c e ⟨true,l7,ts,tb,eS⟩ x=(c,false) by simp only[eN,hp,fX,jC,nY,lP,lB,aA]];exact ap2 ⟨rfl,ji,rfl,rd,rfl,cp,dN,dx,c0,cZ,cn,ka,rfl,cp,jS,jT,iq,rfl,j1,gb _ aA,rfl,aa⟩
  | true=>
   have e1:eN c e ⟨true,l7,ts,tb,eS⟩ x=(setW (eg c e ⟨true,l7-1,ts+x.bL.getD e.toNat 0,tb||x.bU.getD e.toNat false,eS||x.bx.getD e.toNat false⟩) l7 (gR x e),true):=by
    simp only[eN,hp,fX,jC,nY,lP,lB,aA]
   rw[e1];dsimp only;rw[YG,Gf];have wr:=gb _ aA;cases tb with
   | true=>
    cases eS with
    | true=>exact ap3 ⟨rfl,ji,rfl,rd,rfl,cp,dN,dx,c0,cZ,cn,ka,rfl,cp,jS,jT,iq,rfl,j1,wr,rfl,⟨by omega,by omega⟩,rfl,rfl,cp,dN,dx,c0,cZ,cn,cp,j7,iI,cn,rfl,rfl,rfl,rfl,rfl,aa⟩
    | false=>exact apd ⟨rfl,ji,rfl,rd,rfl,cp,dN,dx,c0,cZ,cn,ka,rfl,cp,jS,jT,iq,rfl,j1,wr,rfl,⟨by omega,by omega⟩,rfl,rfl,cp,s7,s8,cp,dN,dx,c0,cZ,cn,cp,j7,iI,cn,rfl,rfl,rfl,rfl,rfl,aa⟩
   | false=>
    cases eS with
    | true=>exact ape ⟨rfl,ji,rfl,rd,rfl,cp,dN,dx,c0,cZ,cn,ka,rfl,cp,jS,jT,iq,rfl,j1,wr,rfl,⟨by omega,by omega⟩,rfl,cp,j7,iI,rfl,cp,dN,dx,c0,cZ,cn,cp,j7,iI,cn,rfl,rfl,rfl,rfl,rfl,rfl,rfl,aa⟩
    | false=>exact apf ⟨rfl,ji,rfl,rd,rfl,cp,dN,dx,c0,cZ,cn,ka,rfl,cp,jS,jT,iq,rfl,j1,wr,rfl,⟨by omega,by omega⟩,rfl,cp,j7,iI,rfl,cp,s7,s8,cp,dN,dx,c0,cZ,cn,cp,j7,iI,cn,rfl,rfl,rfl,rfl,rfl,rfl,rfl,aa⟩
 case neg=>
  obtain rfl:l7=0:=by omega
  have j1:decide ((0:Int)>0)=false:=rfl;have e1:=fun b=>asy c e ⟨false,0,ts,tb,eS⟩ b
  have ends:=fun cap=>asz (eg c e ⟨false,0,ts,tb,eS⟩) true x e cap (CF.trans ah) uV (by rw[Gs];exact aj)
  rw[e1]at ends;cases tb with
  | true=>
   rw[show eN c e ⟨true,0,ts,true,eS⟩ x=(eg c e ⟨false,0,ts,true,eS⟩,true) by simp[eN,hp]];dsimp only;rw[e1];exact apk ⟨rfl,ji,rfl,rd,rfl,cp,dN,dx,c0,cZ,cn,ka,rfl,cp,jS,jT,iq,rfl,j1,cp,dN,dx,rfl,aa⟩
  | false=>
  cases hk:x.bU.getD e.toNat false with
  | true=>
   rw[hk]at iI;rw[show eN c e ⟨true,0,ts,false,eS⟩ x=(eg c e ⟨false,0,ts,false,eS⟩,true) by unfold eN;simp only[hp,hk];rfl];dsimp only;rw[e1];exact apj ⟨rfl,ji,rfl,rd,rfl,cp,dN,dx,c0,cZ,cn,ka,rfl,cp,jS,jT,iq,rfl,j1,cp,dN,dx,rfl,cp,j7,iI,rfl,aa⟩
  | false=>
  rw[hk]at iI;cases bi:(ts+x.bL.getD e.toNat 0==0) with
  | false=>
   rw[show eN c e ⟨true,0,ts,false,eS⟩ x=(eg c e ⟨false,0,ts,false,eS⟩,true) by unfold eN;simp only[hp,hk,bi];rfl];dsimp only;rw[e1];exact api ⟨rfl,ji,rfl,rd,rfl,cp,dN,dx,c0,cZ,cn,ka,rfl,cp,jS,jT,iq,rfl,j1,cp,dN,dx,rfl,cp,j7,iI,rfl,bi,aa⟩
  | true=>
  rw[show eN c e ⟨true,0,ts,false,eS⟩ x=(iL (setW (eg c e ⟨false,0,ts,false,eS⟩) 0 (told x e (eS||x.bx.getD e.toNat false))) (c.news++hR (c.az.length-1) e (eS||x.bx.getD e.toNat false)),true) by unfold eN;simp only[hp,hk,bi];rfl];cases eS with
  | true=>exact apg ⟨rfl,ji,rfl,rd,rfl,cp,dN,dx,c0,cZ,cn,ka,rfl,cp,jS,jT,iq,rfl,j1,cp,dN,dx,rfl,cp,j7,iI,rfl,bi,rfl,ends true,aa⟩
  | false=>exact aph ⟨rfl,ji,rfl,rd,rfl,cp,dN,dx,c0,cZ,cn,ka,rfl,cp,jS,jT,iq,rfl,j1,cp,dN,dx,rfl,cp,j7,iI,rfl,bi,rfl,cp,s7,s8,ends _,aa⟩
theorem asB(c:a')(e:Int)(W T:List (List D))(hlen:0<c.az.length)(aF:c.az.length<=4)(aj:c.sz<=8388608):c5 prog (ar f223 0) (zK e 1 (c.aE.nodes.map Node.e) c.aE.az c.aE.cap W (c.bP.map bw.e) T (c.news.map b1.e) 0 0 (c.aE.nodes.map Node.e) c.aE.az c.aE.cap (c.az.map aP.e) (c.bP.map bw.e) (c.tokens.map b4.e) (c.news.map b1.e)) (.exit 1) (zL (c.aE.nodes.map Node.e) c.aE.az c.aE.cap W (c.bP.map bw.e) T ((c.news++hR (c.az.length-1) e true).map b1.e) 0 0):=by
 have aX:=xM aj;have l:=fC (P:=prog) (c:=(ar f223 0)) (cH 1) (c.az.length-1) (fun i:Nat=>zK e ((i:Int)+1) (c.aE.nodes.map Node.e) c.aE.az c.aE.cap W (c.bP.map bw.e) T ((c.news++hR i e true).map b1.e) 0 0 (c.aE.nodes.map Node.e) c.aE.az c.aE.cap (c.az.map aP.e) (c.bP.map bw.e) (c.tokens.map b4.e) (c.news.map b1.e)) (fun i hi=>by
  have hm:=Oc i e true;rw[OT,<-oM,fQ (l₂:=[_])];exact apw ⟨dt (by simp;omega),by simp;omega,by simp;omega,dD (b1.flat ⟨(i:Int)+1,e,true⟩),⟨by omega,by omega⟩,aa⟩) (apx ⟨dQ (by simp;omega),aa⟩)
 have bu:hR 0 e true=[]:=rfl;rw[bu,kE]at l;exact l
theorem asC(c:a')(e:Int)(cap:Bool)(W T:List (List D))(hlen:0<c.az.length)(aF:c.az.length<=4)(aj:c.sz<=8388608):c5 prog (ar f223 0) (zM e cap 1 (c.aE.nodes.map Node.e) c.aE.az c.aE.cap W (c.bP.map bw.e) T (c.news.map b1.e) 0 0 (c.aE.nodes.map Node.e) c.aE.az c.aE.cap (c.az.map aP.e) (c.bP.map bw.e) (c.tokens.map b4.e) (c.news.map b1.e)) (.exit 1) (zL (c.aE.nodes.map Node.e) c.aE.az c.aE.cap W (c.bP.map bw.e) T ((c.news++hR (c.az.length-1) e cap).map b1.e) 0 0):=by
 have aX:=xM aj;have l:=fC (P:=prog) (c:=(ar f223 0)) (cH 1) (c.az.length-1) (fun i:Nat=>zM e cap ((i:Int)+1) (c.aE.nodes.map Node.e) c.aE.az c.aE.cap W (c.bP.map bw.e) T ((c.news++hR i e cap).map b1.e) 0 0 (c.aE.nodes.map Node.e) c.aE.az c.aE.cap (c.az.map aP.e) (c.bP.map bw.e) (c.tokens.map b4.e) (c.news.map b1.e)) (fun i hi=>by
  have hm:=Oc i e cap;rw[OT,<-oM,fQ (l₂:=[_])];exact apz ⟨dt (by simp;omega),by simp;omega,by simp;omega,dD (b1.flat ⟨(i:Int)+1,e,cap⟩),⟨by omega,by omega⟩,aa⟩) (apA ⟨dQ (by simp;omega),aa⟩)
 have bu:hR 0 e cap=[]:=rfl;rw[bu,kE]at l;exact l
theorem asD(c:a')(e:Int)(aj:c.sz<=8388608)(hw:gl c):al 223 [.agg c.e,.one (I e)] [.agg (je c e).1.e,.one (B (je c e).2)]:=by
 have cB:=vp c aj;have mn:=Gl c aj hw;cases ok:cU c with
 | false=>
  rw[ok]at mn;rw[show je c e=(c,false) by unfold je;simp[ok]];exact apl ⟨cB,mn,rfl,aa⟩
 | true=>
 rw[ok]at mn;cases he:aw e 0 3 with
 | false=>
  rw[show je c e=(c,false) by unfold je;simp[he]];exact apm ⟨cB,mn,rfl,hA _ he,rfl,aa⟩
 | true=>
 have he:=he;obtain⟨ff,t,x,bG,bT,ah,wI,uV,yE,Je,ac6,q4,wB,uO,sa⟩:=YI ok he;have qT:0<=e/\e<=3:=by simpa only[aw,cV]using he
 obtain⟨cp,dN,dx⟩:=YD bT;obtain⟨c0,cZ,cn⟩:=mw ah;obtain⟨aB6,oJ,oK⟩:=mw bG;obtain⟨jS,jT⟩:=yO q4 qT;obtain⟨j7,iI⟩:=rW wB qT;obtain⟨s7,s8⟩:=rW uO qT;have c':=nd ah aj;have qR:x.b8.length<=8388608:=by simp only[aP.sz]at c';omega
 have En:(↑(c.az.map aP.e).length:Int)=(c.az.length:Int):=by rw[bl]
 have ji:=hA _ he;cases aG:ja ff e with
 | true=>
  rw[show je c e=(c,false) by unfold je;simp only[ok,he,Bool.and_self,fX,bG,bT,aG]];exact apn ⟨cB,mn,rfl,ji,rfl,by omega,oJ,oK,GK ff e true aG (nd bG aj),rfl,aa⟩
 | false=>
 have dm:=GK ff e false aG (nd bG aj);rw[YH ok he bG bT aG ah];cases hp:k1 x e with
 | false=>
  rw[show eN c e t x=(c,false) by unfold eN;simp[hp]];exact apo ⟨cB,mn,rfl,ji,rfl,by omega,oJ,oK,dm,rfl,cp,dN,dx,c0,cZ,cn,W7 x e _ hp c',rfl,aa⟩
 | true=>
 have ka:=W7 x e _ hp c';have iq:aD .i64 (t.sum+x.bL.getD e.toNat 0):=⟨by omega,by omega⟩
 obtain⟨G0,l7,ts,tb,eS⟩:=t;dsimp only at*;cases G0 with
 | false=>
  obtain rfl:l7=0:=Je rfl;rw[show eN c e ⟨false,0,ts,tb,eS⟩ x=(setW (eg c e ⟨true,(c.az.length:Int)-1,0,false,x.bx.getD e.toNat false⟩) 0 (gR x e),true) by simp only[eN,hp,fX,oN]];dsimp only;rw[YF,Gf,<-En];exact apq ⟨cB,mn,rfl,ji,rfl,by omega,oJ,oK,dm,rfl,cp,dN,dx,c0,cZ,cn,ka,rfl,dx,rfl,cn,cp,s7,s8,⟨by omega,by omega⟩,dx,cn,cp,j7,iI,cn,rfl,rfl,rfl,aa⟩
 | true=>
 by_cases lB:0<l7
 case pos=>
  have j1:decide (l7>0)=true:=dt lB;cases aA:aw (ts+x.bL.getD e.toNat 0) (-1000000) 1000000 with
  | false=>
   rw[show eN c e ⟨true,l7,ts,tb,eS⟩ x=(c,false) by simp only[eN,hp,fX,jC,nY,lP,lB,aA]];exact apr ⟨cB,mn,rfl,ji,rfl,by omega,oJ,oK,dm,rfl,cp,dN,dx,c0,cZ,cn,ka,rfl,dx,rfl,dx,j1,dx,cn,cp,jS,jT,iq,hA _ aA,rfl,aa⟩
  | true=>
   have e1:eN c e ⟨true,l7,ts,tb,eS⟩ x=(setW (eg c e ⟨true,l7-1,ts+x.bL.getD e.toNat 0,tb||x.bU.getD e.toNat false,eS||x.bx.getD e.toNat false⟩) l7 (gR x e),true):=by
    simp only[eN,hp,fX,jC,nY,lP,lB,aA]
   rw[e1];dsimp only;rw[YF,Gf];have wr:=hA _ aA;have cG:aD .i64 (l7-1):=⟨by omega,by omega⟩
   cases tb with
   | true=>
    cases eS with
    | true=>
     have key:=aps ⟨cB,mn,rfl,ji,rfl,by omega,oJ,oK,dm,rfl,cp,dN,dx,c0,cZ,cn,ka,rfl,dx,rfl,dx,j1,dx,cn,cp,jS,jT,iq,wr,rfl,dx,cn,cp,jS,jT,iq,dx,ia cp dN,rfl,ia cp dN,uI cp dN,rfl,uI cp dN,cn,cp,j7,iI,cn,rfl,rfl,rfl,uJ cp dN,cG,uJ cp dN,aa⟩;simp only[qu]at key;exact key
    | false=>
     have key:=apt ⟨cB,mn,rfl,ji,rfl,by omega,oJ,oK,dm,rfl,cp,dN,dx,c0,cZ,cn,ka,rfl,dx,rfl,dx,j1,dx,cn,cp,jS,jT,iq,wr,rfl,dx,cn,cp,jS,jT,iq,dx,ia cp dN,rfl,ia cp dN,uI cp dN,rfl,cn,cp,s7,s8,uI cp dN,cn,cp,j7,iI,cn,rfl,rfl,rfl,uJ cp dN,cG,uJ cp dN,aa⟩;simp only[qu]at key;exact key
   | false=>
    cases eS with
    | true=>
     have key:=apu ⟨cB,mn,rfl,ji,rfl,by omega,oJ,oK,dm,rfl,cp,dN,dx,c0,cZ,cn,ka,rfl,dx,rfl,dx,j1,dx,cn,cp,jS,jT,iq,wr,rfl,dx,cn,cp,jS,jT,iq,dx,ia cp dN,rfl,cn,cp,j7,iI,ia cp dN,uI cp dN,rfl,uI cp dN,cn,cp,j7,iI,cn,rfl,rfl,rfl,rfl,rfl,uJ cp dN,cG,uJ cp dN,aa⟩;simp only[qu]at key;exact key
    | false=>
     have key:=apv ⟨cB,mn,rfl,ji,rfl,by omega,oJ,oK,dm,rfl,cp,dN,dx,c0,cZ,cn,ka,rfl,dx,rfl,dx,j1,dx,cn,cp,jS,jT,iq,wr,rfl,dx,cn,cp,jS,jT,iq,dx,ia cp dN,rfl,cn,cp,j7,iI,ia cp dN,uI cp dN,rfl,cn,cp,s7,s8,uI cp dN,cn,cp,j7,iI,cn,rfl,rfl,rfl,rfl,rfl,uJ cp dN,cG,uJ cp dN,aa⟩;simp only[qu]at key;exact key
 case neg=>
  obtain rfl:l7=0:=by omega
  have j1:decide ((0:Int)>0)=false:=rfl;cases tb with
  | true=>
   rw[show eN c e ⟨true,0,ts,true,eS⟩ x=(eg c e ⟨false,0,ts,true,eS⟩,true) by simp[eN,hp]];dsimp only;rw[OS];exact ao3 ⟨cB,mn,rfl,ji,rfl,by omega,oJ,oK,dm,rfl,cp,dN,dx,c0,cZ,cn,ka,rfl,dx,rfl,dx,j1,dx,ia cp dN,rfl,aa⟩
  | false=>
  cases hk:x.bU.getD e.toNat false with
  | true=>
   rw[hk]at iI;rw[show eN c e ⟨true,0,ts,false,eS⟩ x=(eg c e ⟨false,0,ts,false,eS⟩,true) by unfold eN;simp only[hp,hk];rfl];dsimp only;rw[OS];exact apD ⟨cB,mn,rfl,ji,rfl,by omega,oJ,oK,dm,rfl,cp,dN,dx,c0,cZ,cn,ka,rfl,dx,rfl,dx,j1,dx,ia cp dN,rfl,cn,cp,j7,iI,rfl,aa⟩
  | false=>
  rw[hk]at iI;cases bi:(ts+x.bL.getD e.toNat 0==0) with
  | false=>
   rw[show eN c e ⟨true,0,ts,false,eS⟩ x=(eg c e ⟨false,0,ts,false,eS⟩,true) by unfold eN;simp only[hp,hk,bi];rfl];dsimp only;rw[OS];exact apC ⟨cB,mn,rfl,ji,rfl,by omega,oJ,oK,dm,rfl,cp,dN,dx,c0,cZ,cn,ka,rfl,dx,rfl,dx,j1,dx,ia cp dN,rfl,cn,cp,j7,iI,rfl,ia cp dN,cn,cp,jS,jT,iq,bi,aa⟩
  | true=>
  rw[show eN c e ⟨true,0,ts,false,eS⟩ x=(iL (setW (eg c e ⟨false,0,ts,false,eS⟩) 0 (told x e (eS||x.bx.getD e.toNat false))) (c.news++hR (c.az.length-1) e (eS||x.bx.getD e.toNat false)),true) by unfold eN;simp only[hp,hk,bi];rfl];have eo:∀cap,(iL (setW (eg c e ⟨false,0,ts,false,eS⟩) 0 (told x e cap)) (c.news++hR (c.az.length-1) e cap)).e=[.J 4 (c.aE.nodes.map Node.e),I c.aE.az,I c.aE.cap,.J 8 ((c.az.map aP.e).set 0 [.J 5 (x.queue.map aq.e),.J 5 (x.cj.map aq.e),.J 5 (x.bO.map aq.e),.J 4 (x.cells.map Cell.e),.J 1 (x.bL.map bh),.J 1 (x.bU.map cD),.J 1 (x.bx.map cD),.J 2 (x.b8.map cR.e++[[I e,B cap]])]),.J 6 (c.bP.map bw.e),.J 5 ((c.tokens.map b4.e).set e.toNat (b4.e ⟨false,0,ts,false,eS⟩)),.J 3 ((c.news++hR (c.az.length-1) e cap).map b1.e)]:=fun cap=>by
   rw[<-YE];simp only[iL,setW,eg,a'.e,h6];rfl
  cases eS with
  | true=>
   dsimp only[Bool.true_or];rw[eo];exact apy ⟨cB,mn,rfl,ji,rfl,by omega,oJ,oK,dm,rfl,cp,dN,dx,c0,cZ,cn,ka,rfl,dx,rfl,dx,j1,dx,ia cp dN,rfl,cn,cp,j7,iI,rfl,ia cp dN,cn,cp,jS,jT,iq,bi,ia cp dN,rfl,cn,by simp;omega,by simp;omega,cn,rfl,rfl,rfl,dD (cR.flat ⟨e,true⟩),cn,rfl,asB c e _ _ wI uV aj,aa⟩
  | false=>
   dsimp only[kF];rw[eo];exact apB ⟨cB,mn,rfl,ji,rfl,by omega,oJ,oK,dm,rfl,cp,dN,dx,c0,cZ,cn,ka,rfl,dx,rfl,dx,j1,dx,ia cp dN,rfl,cn,cp,j7,iI,rfl,ia cp dN,cn,cp,jS,jT,iq,bi,ia cp dN,rfl,cn,cp,s7,s8,cn,by simp;omega,by simp;omega,cn,rfl,rfl,rfl,dD (cR.flat ⟨e,_⟩),cn,rfl,asC c e _ _ _ wI uV aj,aa⟩
