import Derived.Test.YtdchjefneblpgaaGreatP111
set_option linter.unusedVariables false
set_option linter.unusedSimpArgs false
namespace Go.Proofs.YtdchjefneblpgaaGreat
open Go.Sx Go.RowKit
def Still(c:aT):Prop:=(∀x∈c.ar,x.queue=[]/\x.b8=[]/\x.bR=[])/\(∀l∈c.bJ,l.queue=[])/\∀(a b:Int) l,a≠b->ez c (dZ c.ay a b)=some l->l.back=0
section
variable {c : aT} {S b : Int}
variable{i:Int}{x:aK}
theorem awo(bW:cB c=true)(af:cc c i=some x)(ao:x.b8=[])(h:(cY c ⟨1,i,b⟩).2=false):x.queue=[]:=by
 have ax:=(fz.1 bW).1;have hw:=j4 bW af;cases aH:x.queue with
 | nil=>rfl
 | cons r q=>
  grind[cY,jg,eX]
theorem awp(bW:cB c=true)(af:cc c i=some x)(ao:x.b8=[])(aH:x.queue=[])(h:(cY c ⟨2,i,b⟩).2=false):x.bR=[]:=by
 have ax:=(fz.1 bW).1;have hw:=j4 bW af;cases hi:x.bR with
 | nil=>rfl
 | cons r q=>
  grind[cY,jh,eY]
theorem Yi(bW:cB c=true){j:Int}{l:bm}(oe:i≠j)(al:ez c (dZ c.ay i j)=some l)(h:(cY c ⟨5,i,j⟩).2=false):l.back=0:=by
 have hk:=(qy.1 (rN bW al)).1;have cX:(i != j)=true:=by grind
 refine Classical.byContradiction fun aw=>?_
 simp_all[true,cY,ji,fF]
theorem awq(bW:cB c=true){j:Int}{l:bm}(oe:i≠j)(al:ez c (dZ c.ay i j)=some l)(af:cc c j=some x)(h:(cY c ⟨4,i,j⟩).2=false):l.queue=[]:=by
 have hk:=(qy.1 (rN bW al)).1;have cX:(i != j)=true:=by grind
 grind[cY,jE,dG]
theorem avB(bW:cB c=true)(aw:jq S c)(hv:S<=200000)(af:cc c i=some x)(ak:∀j l,j≠i->ez c (dZ c.ay i j)=some l->l.eL≠0)(h:(cY c ⟨3,i,b⟩).2=false):x.b8=[]:=by
 have aZ:=iR (fz.1 bW).1;have hlen:=(fz.1 bW).2.1;obtain⟨i0,i1,_⟩:=eO af;cases ao:x.b8 with
 | nil=>rfl
 | cons r t=>
  exfalso;have aA:(cY c ⟨3,i,b⟩).2=(rM c i x r t (eU r.key c.ay.ar)).2:=by
   grind[cY,iS]
  rw[aA]at h;unfold rM at h;split at h
  ·cases h
  rename_i a7;have hi:av i 0 (c.ay.ar-1)=true:=by simp only[av,ck];omega
  obtain⟨l,al⟩:=xI bW hi (Cw r.key aZ.1);have hk:=(qy.1 (rN bW al)).1;have aDy:=aw.eo l (c9 (iA al).2.2);have o0:=ak _ l a7 al;have aD:=(ik.1 (j4 bW af)).2.1;rw[ao,qx]at aD;have aD:=aD.1;simp only[j6,gl,kd]at aD;have aDx:(ef l r).2=true:=by
   unfold ef;grind
  grind
end
theorem Yj{n w:Nat}(h:w<n){p:b'}(hp:p∈jC w):p∈mr n:=by
 grind[mr]
theorem avC{n a b:Nat}(ai:a<n)(aw:b<n){p:b'}(hp:p∈lc a b):p∈mY n n:=by
 unfold mY qw;grind
theorem Pd{g:bV}(h:1<=g.ar/\g.ar<=4):fT g.ar 0 4=g.ar:=by
 unfold fT;grind
theorem avD{n:Int}(aZ:1<=n/\n<=4){k:Nat}(hk:(k:Int)<n*n):∃a b:Nat,(a:Int)<n/\(b:Int)<n/\(k:Int)=a*n+b:=by
 have aJ:n=1\/n=2\/n=3\/n=4:=by omega
 refine⟨((k:Int) / n).toNat,((k:Int) % n).toNat,?_⟩;grind
structure Same (c d:aT):Prop where
 ay:d.ay=c.ay
 bJ:d.bJ=c.bJ
 len:d.ar.length=c.ar.length
 w:∀(i:Nat) x,c.ar[i]?=some x->∃y,d.ar[i]?=some y/\y.queue=x.queue/\y.b8=x.b8/\y.bR=x.bR
variable{c:aT}
theorem Same.rfl:Same c c:=⟨Eq.refl _,Eq.refl _,Eq.refl _,fun _ x h=>⟨x,h,Eq.refl _,Eq.refl _,Eq.refl _⟩⟩
variable{d:aT}
theorem Same.trans{e:aT}(h:Same c d)(k:Same d e):Same c e:=⟨k.ay.trans h.ay,k.bJ.trans h.bJ,k.len.trans h.len,fun i x af=>by
 obtain⟨y,bD,h1,U,aA⟩:=h.w i x af;obtain⟨z,bd,cS,bt,fP⟩:=k.w i y bD;grind⟩
theorem Same.cc(h:Same c d){i:Int}{x:aK}(af:cc c i=some x):∃y,cc d i=some y/\y.queue=x.queue/\y.b8=x.b8/\y.bR=x.bR:=by
 obtain⟨bO,_,U⟩:=eO af;unfold Go.Proofs.YtdchjefneblpgaaGreat.cc;rw[bn bO];exact h.w _ x U
theorem Same.ez(h:Same c d)(a b:Int):ez d (dZ d.ay a b)=ez c (dZ c.ay a b):=by
 unfold Go.Proofs.YtdchjefneblpgaaGreat.ez;rw[h.bJ,h.ay]
theorem Same.set{i:Int}{x y:aK}(af:Go.Proofs.YtdchjefneblpgaaGreat.cc c i=some x)(h1:d.ay=c.ay)(U:d.bJ=c.bJ)(aA:d.ar=c.ar.set i.toNat y)(aJ:y.queue=x.queue)(a':y.b8=x.b8)(bu:y.bR=x.bR):Same c d:=
 ⟨h1,U,by grind,fun j z bd=>by
  rw[aA];by_cases bk:j=i.toNat
  ·subst bk;rw[(eO af).2.2]at bd;simp_all[vB,eO]
  grind⟩
def EC(c:aT)(p:b'):Prop:=∃(d:aT) (S:Int),cB d=true/\jq S d/\S<=200000/\Same c d/\(cY d p).2=false
theorem Yk(bW:cB c=true)(iJ:∀p∈ff c,p.kind<=5->EC c p):Still c:=by
 obtain⟨ax,vg,BE,_⟩:=fz.1 bW;have aZ:=iR ax;obtain⟨n,lq⟩:∃n:Nat,c.ay.ar=n:=⟨c.ay.ar.toNat,by omega⟩
 have adg:∀p∈mr n,p∈ff c:=fun p hp=>by
  grind[ff,Pd,kU,hD]
 have adh:∀p∈mY n n,p∈ff c:=fun p hp=>by
  grind[ff,Pd,kU,hD,iC]
 have four:∀w:Nat,w<n->∀p∈jC w,p.kind<=5->EC c p:=fun w hw p hp hk=>iJ p (adg p (Yj hw hp)) hk
 have two:∀a b:Nat,a<n->b<n->∀p∈lc a b,p.kind<=5->EC c p:=fun a b ai u1 p hp hk=>iJ p (adh p (avC ai u1 hp)) hk
 have inr:∀a:Nat,a<n->av (a:Int) 0 (c.ay.ar-1)=true:=fun a ai=>by simp only[av,ck];omega
 have bJ:∀a b:Nat,a<n->b<n->a≠b->∀l,ez c (dZ c.ay a b)=some l->l.queue=[]/\l.back=0:=fun a b ai u1 eb l al=>by
  obtain⟨x,af⟩:=pA (c:=c) (i:=(b:Int)) (by omega) (by omega);have m4:(⟨4,(a:Int),(b:Int)⟩:b')∈lc a b:=by grind[lc]
  have m5:(⟨5,(a:Int),(b:Int)⟩:b')∈lc a b:=by grind[lc]
  obtain⟨d,S,d1,d2,d3,d4,d5⟩:=two a b ai u1 _ m4 (by grind);obtain⟨f,T,f1,f2,f3,f4,f5⟩:=two a b ai u1 _ m5 (by grind);obtain⟨y,bD,_⟩:=d4.cc af;exact⟨awq d1 (by omega) ((d4.ez _ _).trans al) bD d5,Yi f1 (by omega) ((f4.ez _ _).trans al) f5⟩
 have abC:∀a:Nat,a<n->∀(j:Int) l,j≠a->ez c (dZ c.ay a j)=some l->l.eL≠0:=fun a ai j l bk al=>by
  obtain⟨_,g2⟩:=HC (iA al).1;simp only[av,ck]at g2;obtain⟨b,rfl⟩:∃b:Nat,j=b:=⟨j.toNat,by omega⟩
  obtain⟨q1,jb⟩:=bJ a b ai (by omega) (by omega) l al;obtain⟨cS,_,_,pa,_⟩:=pz.1 (qy.1 (rN bW al)).1;simp only[av,ck]at cS;grind
 refine⟨?_,?_,fun a b l eb al=>?_⟩
 ·intro x af;obtain⟨w,hw⟩:=List.getElem?_of_mem af;have aDF:=a1 hw;have o7:cc c (w:Int)=some x:=by simp_all[cc,bn]
  obtain⟨d,S,d1,d2,d3,d4,d5⟩:=four w (by omega) ⟨3,w,0⟩ (by simp[jC]) (by grind);obtain⟨y,bD,eB,eV,aaK⟩:=d4.cc o7;have ao:=avB d1 d2 d3 bD (fun j l bk al=>abC w (by omega) j l bk ((d4.ez _ _).symm.trans al)) d5;rw[eV]at ao;obtain⟨f,T,f1,f2,f3,f4,f5⟩:=four w (by omega) ⟨1,w,0⟩ (by simp[jC]) (by grind);obtain⟨z,bd,r1,z2,z3⟩:=f4.cc o7;have aH:=awo f1 bd (z2.trans ao) f5;rw[r1]at aH;obtain⟨u,aB7,gO,j9,uE,aBA,aEb⟩:=four w (by omega) ⟨2,w,0⟩ (by simp[jC]) (by grind);obtain⟨v,bI,v1,v2,v3⟩:=aBA.cc o7;grind[awp]
 ·intro l al;obtain⟨k,hk⟩:=List.getElem?_of_mem al;have zb:=a1 hk;obtain⟨a,b,ai,u1,e⟩:=avD aZ (k:=k) (by omega);obtain⟨hq,sC,_,FA,aDV⟩:=xH aZ (inr a (by omega)) (inr b (by omega));have mQ:ez c (dZ c.ay a b)=some l:=by
   unfold ez;rw[hq,bn sC,<-e];simpa using hk
  by_cases eb:a=b
  ·subst eb;have aCR:=qy.1 (rN bW mQ);grind[dZ,Nat,Int,M9]
  grind
 obtain⟨g1,g2⟩:=HC (iA al).1;simp only[av,ck]at g1 g2;obtain⟨i,rfl⟩:∃i:Nat,a=i:=⟨a.toNat,by omega⟩
 obtain⟨j,rfl⟩:∃j:Nat,b=j:=⟨b.toNat,by omega⟩
 grind
end Go.Proofs.YtdchjefneblpgaaGreat
namespace Go.Proofs.YtdchjefneblpgaaGreat
open Go.Sx Go.RowKit
structure qM (P:kv) (S:Int) (c:aT):Prop where
 all:kV S c
 of:P.AX c
variable{P:kv}{c:aT}
theorem qM.step{S:Int}(h:qM P S c)(hv:S<200000)(p:b'):qM P (S+1) (cY c p).1:=by
 refine⟨h.all.step hv p,?_⟩;rcases wa c p with⟨_,U⟩ | ⟨_,_,st⟩
 ·rw[U];exact h.of
 exact h.of.step h.all.ok st (Nc c p).ay
theorem Yl{d:aT}{p:b'}(st:Step c p d)(hk:5<p.kind):Same c d:=by
 cases st with
 | work x r q jT=>omega
 | input x r t jT=>omega
 | e3 x r t jT=>omega
 | send x r t l jT=>omega
 | take l x jT=>omega
 | p0 l jT=>omega
 | token t x cE jT iI bO aE bG af q6=>
  rcases pB c p.a t x with⟨_,k⟩ | ⟨_,_,⟨_,k⟩ | ⟨_,_,k⟩ | ⟨_,bO,_,k⟩ | ⟨_,_,_,k⟩⟩
  ·grind
  ·rw[k];exact .set af rfl rfl rfl rfl rfl rfl
  ·rw[k];exact .set af rfl rfl rfl rfl rfl rfl
  ·rw[k];have bd:t.place=0:=by have:=(eO af).1;omega
   rw[bd]at af;exact .set af rfl rfl rfl rfl rfl rfl
  rw[k];exact⟨rfl,rfl,rfl,Same.rfl.w⟩
 | p' k n x jT aZ aE af=>
  refine .set (y:=ee x n) af rfl rfl rfl ?_ ?_ ?_<;>(unfold ee;split<;>rfl)
def HL:List b'->Bool
 | []=>true
 | p::l=>(if p.kind=4 then (match l with | q::_=>decide (q=⟨5,p.a,p.b⟩) | []=>false) else true)&&HL l
theorem Pe(aZ:1<=c.ay.ar/\c.ay.ar<=4):HL (ff c)=true/\(ff c).length<=44:=by
 have h:c.ay.ar=1\/c.ay.ar=2\/c.ay.ar=3\/c.ay.ar=4:=by omega
 unfold ff;rcases h with h | h | h | h<;>(rw[h];decide +kernel)
theorem avE{i:Int}{l m:bm}(h:ez c i=some l):ez (dc c i m) i=some m:=by
 simp_all[iA,ez,dc,bn,vB]
theorem Ym:∀(l:List b') {S:Int} {c:aT},qM P S c->S+l.length<=200000->HL l=true->
  fR P (cU c l).1<=fR P c/\(fR P (cU c l).1=fR P c->Same c (cU c l).1/\∀p∈l,p.kind<=5->EC c p)
 | [],S,c,h,hv,_=>⟨fg _,fun _=>⟨.rfl,fun p hp=>by cases hp⟩⟩
 | p::l,S,c,h,hv,hp=>by
  simp only[gQ]at hv;simp only[HL,cw]at hp;have h1:=h.step (by omega) p;obtain⟨i1,i2⟩:=Ym l h1 (by omega) hp.2;simp only[cU];rcases wa c p with⟨cS,bt⟩ | ⟨_,_,st⟩
  ·rw[bt]at i1 i2 ⊢;refine⟨i1,fun he=>?_⟩;obtain⟨qj,o'⟩:=i2 he;refine⟨qj,fun q aH hk=>?_⟩;rcases eH.1 aH with rfl | aH
   ·exact⟨c,S,h.all.ok,h.all.uO,by omega,.rfl,cS⟩
   grind
  have BJ:=YA h.of h.all.owns h.all.ok st;refine⟨by omega,fun he=>?_⟩;have adj:¬(p.kind<=5/\p.kind≠4):=fun aH=>by grind
  rw[bw adj]at BJ;obtain⟨qj,o'⟩:=i2 (by omega);by_cases aJ:p.kind=4
  ·exfalso;rw[bn aJ]at hp;cases l with
   | nil=>cases hp.1
   | cons q gV=>
    have aH:q=⟨5,p.a,p.b⟩:=by grind
    obtain⟨d,T,d1,d2,d3,d4,d5⟩:=o' q (hU ..) (by grind);subst aH;generalize (cY c p).1=c1 at*;cases st with
    | work x r q jT=>omega
    | input x r t jT=>omega
    | e3 x r t jT=>omega
    | send x r t l jT=>omega
    | take l x jT eb al af bG=>
     obtain⟨lp,r,q,aH,e2,e1⟩:=xK bG;have aw:=(pz.1 lp).2.2.1;simp only[av,ck]at aw;have c3:ez (setW (dc c (dZ c.ay p.a p.b) (dG l).1) p.b (h8 x (dG l).2.1)) (dZ c.ay p.a p.b)=some (dG l).1:=avE al;have bO:=Yi d1 eb ((d4.ez p.a p.b).trans c3) d5;grind
    | p0 l jT=>omega
    | token t x cE jT=>omega
    | p' k n x jT=>omega
  have acP:5<p.kind:=by omega
  have ao:=Yl st acP;refine⟨ao.trans qj,fun q aH hk=>?_⟩;rcases eH.1 aH with rfl | aH
  ·omega
  obtain⟨d,T,d1,d2,d3,d4,d5⟩:=o' q aH hk;exact⟨d,T,d1,d2,d3,ao.trans d4,d5⟩
theorem avF{S:Int}(h:qM P S c)(hv:S+44<=200000)(aZ:¬Still c):fR P (gG c).1<fR P c:=by
 obtain⟨eC,a2⟩:=Pe (iR (fz.1 h.all.ok).1);obtain⟨h1,U⟩:=Ym (ff c) h (by omega) eC;refine Classical.byContradiction fun ak=>?_
 have he:fR P (cU c (ff c)).1=fR P c:=by
  grind[gG]
 exact aZ (Yk h.all.ok (U he).2)
theorem qM.run:∀(l:List b') {S:Int} {c:aT},qM P S c->S+l.length<=200000->qM P (S+l.length) (cU c l).1
 | [],S,c,h,_=>by grind[cU]
 | p::l,S,c,h,hv=>by
  simp only[gQ]at hv ⊢;have:=qM.run l (h.step (by omega) p) (by omega);simp only[cU];rw[show S+((l.length+1:Nat):Int)=S+1+l.length by omega];exact this
end Go.Proofs.YtdchjefneblpgaaGreat
namespace Go.Proofs.YtdchjefneblpgaaGreat
open Go.Sx Go.RowKit
def s9(e:Int)(c:aT)(k:Nat):Bool:=(c.ar.take k).all fun x=>!gr e x
def nQ(e:Int)(c:aT)(k:Nat):Bool:=(c.ar.drop k).all fun x=>!gr e x
def qS(e:Int)(c:aT)(t:bP):Bool:=!t.bL&&s9 e c (t.place.toNat+1)&&decide (gW e c (t.place.toNat+1)+t.sum=0)
def qB(e:Int)(c:aT)(t:bP):Nat:=
 if t.going=true then (if qS e c t=true then t.place.toNat+1 else if nQ e c (t.place.toNat+1)=true then t.place.toNat+1+(c.ar.length+1) else t.place.toNat+1+(2*c.ar.length+2))
 else if nQ e c 1=true then c.ar.length+1 else 2*c.ar.length+2
def hh(e:Int)(c:aT):Bool:=match cc c 0 with | some x=>ev x e | none=>true
def jm(e:Int)(c:aT):Nat:=if hh e c=true then 0 else match hR c e with | some t=>qB e c t | none=>0
def sK(c:aT):Nat:=3*(jm 0 c+jm 1 c+jm 2 c+jm 3 c)+c.news.length
theorem Yn{α:Type}(f:α->Bool){x:α}:∀{xs:List α} {i k:Nat},((xs.take k).all f=true)->f x=true->((xs.set i x).take k).all f=true
 | [],_,_,_,_=>by simp
 | a::xs,0,0,_,_=>by simp
 | a::xs,i+1,0,_,_=>by simp
 | a::xs,0,k+1,h,af=>by
  grind
 | a::xs,i+1,k+1,h,af=>by
  simp_all[List.set_cons_succ,List.take_succ_cons,List.all_cons,cw,Yn]
theorem Zc{α:Type}(f:α->Bool){x:α}:∀{xs:List α} {i k:Nat},((xs.drop k).all f=true)->f x=true->((xs.set i x).drop k).all f=true
 | [],_,_,_,_=>by simp
 | a::xs,0,0,h,af=>by
  grind
 | a::xs,i+1,0,h,af=>by
  grind
 | a::xs,0,k+1,h,_=>by simpa using h
 | a::xs,i+1,k+1,h,af=>by
  have:=Zc f (xs:=xs) (i:=i) (k:=k) (by simpa using h) af;simpa using this
variable{c:aT}{e:Int}
theorem rS{x:aK}(h:cc c 0=some x):hh e c=ev x e:=by
 grind[hh]
variable{x:aK}
theorem avG(al:x.bL.length=4)(he:0<=e/\e<=3):(!gr e (ew x e))=true:=by
 grind[gr,ew,Hv]
section
variable {e : Int} {c : aT} {t u : bP} {x : aK}
theorem Zd(af:cc c t.place=some x)(k:Nat):gW e (setW (cJ c e u) t.place (ew x e)) k=gW e c k:=by
 have:=z6 (fG e) (ew x e) (k:=k) (eO af).2.2;rw[show fG e (ew x e)=fG e x from rfl,Int.sub_self,ite_self,Int.add_zero]at this;exact this
end
theorem Still.quiet(h:Still c)(e:Int):quiet e c:=by
 refine⟨fun x af=>?_,?_⟩
 ·obtain⟨h1,U,aA⟩:=h.1 x af;grind[pC]
 unfold ja;rw[xV (g:=fun _=>0) fun l al=>by unfold py l3;rw[h.2.1 l al];rfl,DG]
theorem avH{S:Int}{t:bP}{cE:aK}(h:kV S c)(ao:Still c)(he:0<=e/\e<=3)(bO:cc c 0=some cE)(aE:ev cE e=false)(bG:hR c e=some t)(af:cc c t.place=some x)
  (q6:(dE c e t x).2=true):jm e (dE c e t x).1+1<=jm e c/\((dE c e t x).1.news=c.news\/((dE c e t x).1.news.length+1=c.news.length+c.ar.length/\hh e (dE c e t x).1=true)):=by
 obtain⟨gP,gz,lI⟩:=eO af;obtain⟨_,Fg,_⟩:=sE.1 (zS h.ok bG);have tA:=(Hw (j4 h.ok af)).2.1;have hw:=avG tA he;have total:gW e c c.ar.length=0:=by rw[(h.inv e he).total,(ao.quiet e).2];rfl
 have ak:jm e c=qB e c t:=by
  simp_all[jm,bw,rS,decide]
 have hlen:∀u:bP,(setW (cJ c e u) t.place (ew x e)).ar.length=c.ar.length:=fun u=>hc
 have mf:∀u:bP,jm e (setW (cJ c e u) t.place (ew x e))<=qB e (setW (cJ c e u) t.place (ew x e)) u:=fun u=>by
  unfold jm;rw[show hR (setW (cJ c e u) t.place (ew x e)) e=some u from OG bG];grind
 rcases pB c e t x with⟨k,_⟩ | ⟨_,hp,⟨ax,k⟩ | ⟨ax,sq,k⟩ | ⟨ax,sq,aw,k⟩ | ⟨ax,sq,aw,k⟩⟩
 ·grind
 ·
  rw[k];refine⟨?_,.inl rfl⟩;have bd:=Fg ax;refine mF (Nat.add_le_add_right (mf _) 1) ?_;rw[ak];unfold qB;rw[hlen,ax];dsimp only;have sn:((c.ar.length:Int)-1).toNat+1=c.ar.length:=by omega
  rw[sn,bn (rfl:true=true),bw (show ¬(false=true) by decide)];have tl:nQ e (setW (cJ c e ⟨true,(c.ar.length:Int)-1,0,false,x.bj.getD e.toNat false⟩) t.place (ew x e)) c.ar.length=true:=by
   simp_all[nQ,List.drop_of_length_le,fg]
  rw[tl,bn (rfl:true=true)];by_cases sv:nQ e c 1=true
  ·rw[bn sv];have bF:qS e (setW (cJ c e ⟨true,(c.ar.length:Int)-1,0,false,x.bj.getD e.toNat false⟩) t.place (ew x e)) ⟨true,(c.ar.length:Int)-1,0,false,x.bj.getD e.toNat false⟩=true:=by
    unfold qS;dsimp only;rw[sn,Zd af,total];have:s9 e (setW (cJ c e ⟨true,(c.ar.length:Int)-1,0,false,x.bj.getD e.toNat false⟩) t.place (ew x e)) c.ar.length=true:=by
     unfold s9;rw[yz (by grind)];change (c.ar.set t.place.toNat (ew x e)).all _=true;rw[bd];unfold nQ at sv;cases aCX:c.ar with
     | nil=>grind
     | cons y ys=>
      grind
    grind
   grind
  grind
 ·
  rw[k];refine⟨?_,.inl rfl⟩;refine mF (Nat.add_le_add_right (mf _) 1) ?_;rw[ak];unfold qB;rw[hlen,ax];dsimp only;have sn:(t.place-1).toNat+1=t.place.toNat:=by omega
  rw[sn,bn (rfl:true=true),bn (rfl:true=true)];by_cases bF:qS e c t=true
  ·rw[bn bF];have aC3:qS e (setW (cJ c e ⟨true,t.place-1,t.sum+x.bB.getD e.toNat 0,t.bL||x.bL.getD e.toNat false,t.cf||x.bj.getD e.toNat false⟩) t.place (ew x e)) ⟨true,t.place-1,t.sum+x.bB.getD e.toNat 0,t.bL||x.bL.getD e.toNat false,t.cf||x.bj.getD e.toNat false⟩=true:=by
    unfold qS at bF ⊢;simp only[cw,hb,ck]at bF;obtain⟨⟨f1,f2⟩,f3⟩:=bF;dsimp only;rw[sn,Zd af];rw[HA lI]at f3;unfold s9 at f2;rw[qH,lI,yD,List.all_append,cw]at f2;have dk:x.bL.getD e.toNat false=false:=by
     have:=f2.2;simp only[List.all_cons,List.all_nil,uI,hb]at this;exact this
    have:s9 e (setW (cJ c e ⟨true,t.place-1,t.sum+x.bB.getD e.toNat 0,t.bL||x.bL.getD e.toNat false,t.cf||x.bj.getD e.toNat false⟩) t.place (ew x e)) t.place.toNat=true:=by
     unfold s9;exact Yn _ f2.1 hw
    grind[gW,fG,lg]
   grind
  rw[bw bF];by_cases sv:nQ e c (t.place.toNat+1)=true
  ·rw[bn sv];have:nQ e (setW (cJ c e ⟨true,t.place-1,t.sum+x.bB.getD e.toNat 0,t.bL||x.bL.getD e.toNat false,t.cf||x.bj.getD e.toNat false⟩) t.place (ew x e)) t.place.toNat=true:=by
    unfold nQ;change ((c.ar.set t.place.toNat (ew x e)).drop t.place.toNat).all _=true;have al:t.place.toNat<(c.ar.set t.place.toNat (ew x e)).length:=by grind
    rw[List.drop_eq_getElem_cons al,List.all_cons,List.getElem_set_self,hw,oJ];exact Zc _ sv hw
   grind
  grind
 ·
  rw[k];have bd:t.place=0:=by omega
  rw[bd]at lI;have o1:hh e (fV (setW (cJ c e ⟨false,t.place,t.sum,t.bL,t.cf⟩) 0 (told x e (t.cf||x.bj.getD e.toNat false))) (c.news++gh (c.ar.length-1) e (t.cf||x.bj.getD e.toNat false)))=true:=by
   unfold hh;rw[show cc (fV (setW (cJ c e ⟨false,t.place,t.sum,t.bL,t.cf⟩) 0 (told x e (t.cf||x.bj.getD e.toNat false))) (c.news++gh (c.ar.length-1) e (t.cf||x.bj.getD e.toNat false))) 0=some (told x e (t.cf||x.bj.getD e.toNat false)) from vB lI];grind[vC]
  refine⟨?_,.inr ⟨?_,o1⟩⟩
  ·unfold jm;rw[bn o1];change 0+1<=jm e c;rw[ak];unfold qB;grind
  grind[fV,hs,gh,ct,ww]
 -- AK round was in aEc
 rw[k];refine⟨?_,.inl rfl⟩;have bd:t.place=0:=by omega
 rw[bd]at lI;have ac8:qS e c t=false:=by
  rw[uF];intro bF;unfold qS at bF;simp only[cw,hb,ck]at bF;obtain⟨⟨f1,f2⟩,f3⟩:=bF;rw[bd]at f2 f3;have ao:gW e c 1=fG e x:=by rw[HA (k:=0) lI];simp[gW]
  refine aw ⟨f1,?_,?_⟩
  ·unfold s9 at f2;change (c.ar.take 1).all _=true at f2;simp_all[qH,some,yD,List.all_append,cw,gr]
  grind[gW,fG]
 have u2:jm e (cJ c e ⟨false,t.place,t.sum,t.bL,t.cf⟩)<=qB e (cJ c e ⟨false,t.place,t.sum,t.bL,t.cf⟩) ⟨false,t.place,t.sum,t.bL,t.cf⟩:=by
  unfold jm;rw[show hR (cJ c e ⟨false,t.place,t.sum,t.bL,t.cf⟩) e=some ⟨false,t.place,t.sum,t.bL,t.cf⟩ from OG bG];grind
 refine mF (Nat.add_le_add_right u2 1) ?_;rw[ak];unfold qB;rw[ax,ac8];dsimp only;rw[bw (show ¬(false=true) by decide),bn (rfl:true=true),bw (show ¬(false=true) by decide),bd];change (if nQ e c 1=true then _ else _)+1<=(if nQ e c 1=true then _ else _);by_cases sv:nQ e c 1=true
 ·rw[bn sv,bn sv];change c.ar.length+1+1<=0+1+(c.ar.length+1);omega
 rw[bw sv,bw sv];change 2*c.ar.length+2+1<=0+1+(2*c.ar.length+2);omega
theorem DI{i:Int}{d:aT}{y:aK}(af:cc c i=some x)(hw:d.ar=c.ar.set i.toNat y)(bG:hR d e=hR c e)(aw:gr e y=gr e x)(ao:fG e y=fG e x)(aE:ev x e=true->ev y e=true):jm e d<=jm e c:=by
 obtain⟨gP,gz,lI⟩:=eO af;have hlen:d.ar.length=c.ar.length:=by grind
 have E':∀{β:Type} (f:aK->β),f y=f x->d.ar.map f=c.ar.map f:=fun f bF=>by
  grind[hE,DC]
 have aDl:=E' (fun z=>!gr e z) (by rw[aw]);have ac3:=E' (fG e) ao;have e1:∀k,nQ e d k=nQ e c k:=fun k=>by
  have:∀ws:List aK,(ws.drop k).all (fun z=>!gr e z)=((ws.map fun z=>!gr e z).drop k).all id:=fun ws=>by
   rw[<-List.map_drop,List.all_map];rfl
  grind[nQ]
 have e2:∀k,s9 e d k=s9 e c k:=fun k=>by
  have:∀ws:List aK,(ws.take k).all (fun z=>!gr e z)=((ws.map fun z=>!gr e z).take k).all id:=fun ws=>by
   rw[<-qJ,List.all_map];rfl
  grind[s9]
 have cj:∀k,gW e d k=gW e c k:=fun k=>by
  grind[gW,qJ]
 have d':∀t,qB e d t=qB e c t:=fun t=>by
  grind[qB,qS]
 unfold jm;by_cases u2:hh e d=true
 ·grind
 have aCZ:¬hh e c=true:=fun ak=>u2 (by
  unfold hh cc at ak ⊢;grind)
 grind
theorem avI{f:Int}{t:bP}(he:0<=e)(bF:0<=f)(cX:f≠e)(af:cc c t.place=some x):jm e (dE c f t x).1<=jm e c:=by
 have DR:gr e (ew x f)=gr e x:=by
  grind[gr,ew,xQ,z7]
 rcases pB c f t x with⟨_,k⟩ | ⟨_,_,⟨_,k⟩ | ⟨_,_,k⟩ | ⟨_,bO,_,k⟩ | ⟨_,_,_,k⟩⟩
 ·grind
 ·rw[k];exact DI af rfl (vD he bF cX) DR rfl id
 ·rw[k];exact DI af rfl (vD he bF cX) DR rfl id
 ·rw[k];have bd:t.place=0:=by have:=(eO af).1;omega
  rw[bd]at af;exact DI af rfl (vD he bF cX) rfl rfl fun q=>by rw[vC,q,Bool.true_or]
 rw[k];exact DI (y:=x) af (DC (eO af).2.2).symm (vD he bF cX) rfl rfl id
theorem avJ{S:Int}{d:aT}{p:b'}(h:kV S c)(ao:Still c)(aZ:c.ar.length<=3)(st:Step c p d):Still d/\sK d<sK c:=by
 have still:5<p.kind->Still d:=fun hk=>by
  have pL:=Yl st hk;refine⟨fun x af=>?_,fun l al=>ao.2.1 l (pL.bJ▸al),fun a b l eb al=>ao.2.2 a b l eb ((pL.ez a b).symm.trans al)⟩;obtain⟨i,hi⟩:=List.getElem?_of_mem af;obtain⟨z,bd⟩:=c4 (xs:=c.ar) (i:=i) (by have:=a1 hi;rw[pL.len]at this;exact this);obtain⟨y,bD,eB,eV,aaK⟩:=pL.w i z bd;rw[hi]at bD;cases bD;rw[eB,eV,aaK];exact ao.1 z (c9 bd)
 cases st with
 | work x r q hk af dp aH=>
  have:=(ao.1 x (c9 (eO af).2.2)).1;grind
 | input x r t hk af dp aH hi=>
  have:=(ao.1 x (c9 (eO af).2.2)).2.2;grind
 | e3 x r t hk af dp a7=>
  have:=(ao.1 x (c9 (eO af).2.2)).2.1;grind
 | send x r t l hk af dp a7 al hsend=>
  have:=(ao.1 x (c9 (eO af).2.2)).2.1;grind
 | take l x hk eb al af bG=>
  obtain⟨_,r,q,aH,_⟩:=xK bG;have:=ao.2.1 l (c9 (iA al).2.2);grind
 | p0 l hk eb al ak=>
  rcases xL l with⟨k,_⟩ | ⟨_,_,aw,_⟩
  ·grind
  exact absurd (ao.2.2 _ _ l eb al) aw
 | token t x cE hk iI bO aE bG af q6=>
  refine⟨still (by omega),?_⟩;simp only[av,ck]at iI;obtain⟨cS,bt⟩:=avH h ao iI bO aE bG af q6;have aDT:∀e:Int,0<=e->p.a≠e->jm e (dE c p.a t x).1<=jm e c:=fun e he cX=>avI he iI.1 cX af
  grind[dE,sK,decide]
 | p' k n x hk ze aE af=>
  refine⟨still (by omega),?_⟩;obtain⟨s1,s2,_⟩:fG 0 (ee x n)=fG 0 x/\gr 0 (ee x n)=gr 0 x/\ln 0 (ee x n)=ln 0 x:=Hz;have o:∀e:Int,jm e (fV (setW c p.a (ee x n)) (cutAt c.news k))<=jm e c:=fun e=>by
   obtain⟨s1,s2,_⟩:=Hz (x:=x) (n:=n) (e:=e);exact DI (y:=ee x n) af rfl rfl s2 s1 fun q=>by rw[Hy,q,Bool.true_or]
  have al:(cutAt c.news k).length+1=c.news.length:=by
   grind[a1,cutAt,hs,nS,List.length_drop]
  have ph:=o 0;have cC:=o 1;have cg:=o 2;have cL:=o 3;unfold sK;change 3*_+(cutAt c.news k).length<_;omega
end Go.Proofs.YtdchjefneblpgaaGreat
namespace Go.Proofs.YtdchjefneblpgaaGreat
open Go.Sx Go.RowKit
structure Fin (e:Int) (c:aT):Prop where
 first:hh e c=false->nO c e=false/\nj c e=false
 reach:hh e c=true->∀(i:Nat) x,0<i->c.ar[i]?=some x->ev x e=true\/∃n∈c.news,n.dest=i/\n.a8=e
 flag:∃b:Bool,(∀x∈c.ar,∀d∈x.bZ,d.a8=e->d.cf=b)/\(∀n∈c.news,n.a8=e->n.cf=b)/\(hh e c=true->b=false->∀x∈c.ar,ln e x=false)
variable{c:aT}
theorem DQ{x:aK}(h:cc c 0=some x):c.ar[0]?=some x:=(eO h).2.2
theorem xW{e i:Int}{d:aT}{x y:aK}(h:Fin e c)(sy:Inv e c)(af:cc c i=some x)(hw:d.ar=c.ar.set i.toNat y)(aZ:d.news=c.news)(aE:y.bZ=x.bZ)(ak:ks x e=true->ln e y=ln e x):Fin e d:=by
 obtain⟨i0,i1,i2⟩:=eO af;have o1:∀f,ev y f=ev x f:=fun f=>by grind[ev]
 have mf:hh e d=hh e c:=by
  unfold hh cc;grind
 refine⟨fun bF=>?_,fun bF j z bk bd=>?_,?_⟩
 ·rw[mf]at bF;obtain⟨t1,t2⟩:=h.first bF
  grind[nj,nO,ft,iq,c9]
 ·rw[mf]at bF;rw[aZ];rw[hw]at bd;rcases xP bd with⟨rfl,rfl⟩ | ⟨_,bd⟩
  ·rw[o1];exact h.reach bF _ x bk i2
  exact h.reach bF j z bk bd
 obtain⟨b,fb,fY,r8⟩:=h.flag;refine⟨b,fun z bd=>?_,by grind,fun bF aw z bd=>?_⟩
 ·grind
 rw[mf]at bF;rw[hw]at bd;rcases iq bd with bd | rfl
 ·grind
 have aH:=(sy.AJ (by
  have ao:hh e c=true:=bF;obtain⟨cE,o8⟩:∃cE,cc c 0=some cE:=pA (by decide) (by omega);rw[rS o8]at ao;rw[pV];exact .inl (oK.2 ⟨cE,c9 (DQ o8),ao⟩))).1 x (c9 i2)
 grind
theorem Fin.step{e:Int}{d:aT}{p:b'}(h:Fin e c)(sy:Inv e c)(he:0<=e/\e<=3)(bW:cB c=true)(st:Step c p d):Fin e d:=by
 cases st with
 | work x r q hk af ao aH=>
  refine xW h sy af rfl rfl rfl fun k=>?_
  obtain⟨cS,bt,fP⟩:=pC.1 k;rw[aH]at bt;have gn:=bt r (hU ..);have aD:=OF (ik.1 (j4 bW af)).1 (r:=r) (by grind);grind[ln,xQ,z7]
 | input x r t hk af ao aH hi=>exact xW h sy af rfl rfl rfl fun _=>rfl
 | e3 x r t hk af ao a7=>exact xW h sy af rfl rfl rfl fun _=>rfl
 | send x r t l hk af ao a7 al hsend=>exact xW h sy af rfl rfl rfl fun _=>rfl
 | take l x hk eb al af bG=>exact xW h sy af rfl rfl rfl fun _=>rfl
 | p0 l hk eb al ak=>exact⟨h.first,h.reach,h.flag⟩
 | token t x cE hk iI bO aE bG af q6=>
  rcases pB c p.a t x with⟨_,k⟩ | ⟨_,hp,⟨_,k⟩ | ⟨_,_,k⟩ | ⟨ax,sq,aw,k⟩ | ⟨_,_,_,k⟩⟩
  ·grind
  ·rw[k];exact xW h sy af rfl rfl rfl fun _=>rfl
  ·rw[k];exact xW h sy af rfl rfl rfl fun _=>rfl
  ·rw[k];have bd:t.place=0:=by have:=(eO af).1;omega
   rw[bd,bO]at af;obtain rfl:cE=x:=gJ af;obtain⟨i0,i1,i2⟩:=eO bO;simp only[av,ck]at iI;have mf:hh e (fV (setW (cJ c p.a ⟨false,t.place,t.sum,t.bL,t.cf⟩) 0 (told cE p.a (t.cf||cE.bj.getD p.a.toNat false))) (c.news++gh (c.ar.length-1) p.a (t.cf||cE.bj.getD p.a.toNat false)))=(ev cE e||p.a==e):=by
    unfold hh;rw[show cc (fV (setW (cJ c p.a ⟨false,t.place,t.sum,t.bL,t.cf⟩) 0 (told cE p.a (t.cf||cE.bj.getD p.a.toNat false))) (c.news++gh (c.ar.length-1) p.a (t.cf||cE.bj.getD p.a.toNat false))) 0=some (told cE p.a (t.cf||cE.bj.getD p.a.toNat false)) from vB i2];exact vC
   by_cases BI:p.a=e
   ·subst BI;have aco:hh p.a c=false:=by grind[rS]
    obtain⟨t1,t2⟩:=h.first aco
    obtain⟨_,fZ⟩:=sy.over bG ax sq (by grind) hp aw;refine⟨fun bF=>?_,fun _ j z bk i'=>?_,⟨t.cf||ln p.a cE,fun z i' d lW By=>?_,fun n lq cX=>?_,fun _ ey z i'=>?_⟩⟩
    ·grind
    ·right;have kD:=a1 i';rw[show (fV (setW (cJ c p.a ⟨false,t.place,t.sum,t.bL,t.cf⟩) 0 (told cE p.a (t.cf||cE.bj.getD p.a.toNat false))) (c.news++gh (c.ar.length-1) p.a (t.cf||cE.bj.getD p.a.toNat false))).ar.length=c.ar.length from hc]at kD;refine⟨⟨((j-1:Nat):Int)+1,p.a,t.cf||cE.bj.getD p.a.toNat false⟩,iC _ (lh.2 ⟨j-1,List.mem_range.2 (by omega),rfl⟩),?_,rfl⟩;grind
    ·rcases iq i' with i' | rfl
     ·exfalso;unfold nO at t1;rw[ft]at t1;exact t1 z i' (oK.2 ⟨d,lW,by grind⟩)
     rcases ia.1 lW with lW | lW
     ·exfalso;rw[uF]at aE;exact aE (oK.2 ⟨d,lW,by grind⟩)
     obtain rfl:d=⟨p.a,t.cf||cE.bj.getD p.a.toNat false⟩:=by grind
     rfl
    ·rcases ia.1 lq with lq | lq
     ·grind[nj,ft]
     obtain⟨_,_,rfl⟩:=lh.1 lq;rfl
    rcases iq i' with i' | rfl
    ·exact fZ ey z i'
    exact fZ ey cE (c9 i2)
   have RB:(p.a==e)=false:=by grind
   rw[RB,Bool.or_false]at mf;have JI:hh e c=ev cE e:=rS bO;have o1:ev (told cE p.a (t.cf||cE.bj.getD p.a.toNat false)) e=ev cE e:=by rw[vC,RB,Bool.or_false]
   refine⟨fun bF=>?_,fun bF j z bk i'=>?_,?_⟩
   ·rw[mf,<-JI]at bF;obtain⟨t1,t2⟩:=h.first bF
    refine⟨?_,(Y2 BI).trans t2⟩;unfold nO at t1 ⊢;rw[ft]at t1 ⊢;intro z i';rcases iq i' with i' | rfl
    ·exact t1 z i'
    grind
   ·rw[mf,<-JI]at bF;rcases xP i' with⟨rfl,rfl⟩ | ⟨_,i'⟩
    ·grind
    rcases h.reach bF j z bk i' with bx | ⟨n,bx,b0⟩
    ·exact .inl bx
    exact .inr ⟨n,hD _ bx,b0⟩
   obtain⟨b,fb,fY,r8⟩:=h.flag;refine⟨b,fun z i' d lW By=>?_,fun n lq cX=>?_,fun bF ey z i'=>?_⟩
   ·rcases iq i' with i' | rfl
    ·exact fb z i' d lW By
    rcases ia.1 lW with lW | lW
    ·grind
    grind
   ·rcases ia.1 lq with lq | lq
    ·grind
    obtain⟨_,_,rfl⟩:=lh.1 lq;grind
   rw[mf,<-JI]at bF;rcases iq i' with i' | rfl
   ·exact r8 bF ey z i'
   exact r8 bF ey cE (c9 i2)
  rw[k];exact⟨h.first,h.reach,h.flag⟩
 | p' k n x hk aZ aE af=>
  obtain⟨i0,i1,i2⟩:=eO af;have aDq:n∈c.news:=c9 aZ;have Rc:∀m∈cutAt c.news k,m∈c.news:=fun m hm=>by
   grind[cutAt,td,wq]
  have Re:∀m∈c.news,m∈cutAt c.news k\/m=n:=fun m hm=>by
   obtain⟨j,bk⟩:=List.getElem?_of_mem hm;unfold cutAt;by_cases h1:j<k
   ·exact .inl (hD _ (c9 (i:=j) (by grind)))
   by_cases U:j=k
   ·grind
   refine .inl (iC _ (c9 (i:=j-(k+1)) ?_));grind
  have o1:∀f,ev (ee x n) f=(ev x f||n.a8==f):=fun f=>Hy
  have mf:hh e (fV (setW c p.a (ee x n)) (cutAt c.news k))=true->hh e c=true:=by
   intro bF;cases ak:hh e c with
   | true=>rfl
   | false=>
    obtain⟨t1,t2⟩:=h.first ak
    exfalso;have aD6:∀m∈c.news,m.a8≠e:=fun m hm aDm=>by
     grind[nj,ft]
    have aD9:∀z∈c.ar,ev z e=false:=fun z bd=>by
     grind[nO,ft]
    obtain⟨cE,o8⟩:∃cE,cc (fV (setW c p.a (ee x n)) (cutAt c.news k)) 0=some cE:=pA (by decide) (by grind[fV,setW,ee,cutAt,hc]);rw[rS o8]at bF;have hm:=c9 (DQ o8);rcases iq hm with hm | rfl
    ·grind
    grind
  have aCY:hh e c=true->hh e (fV (setW c p.a (ee x n)) (cutAt c.news k))=true:=by
   intro ak;obtain⟨cE,o8⟩:∃cE,cc c 0=some cE:=pA (by decide) (by omega);rw[rS o8]at ak;by_cases hi:p.a.toNat=0
   ·have RT:x=cE:=by
     grind
    subst RT;rw[rS (x:=ee x n) (show cc (fV (setW c p.a (ee x n)) (cutAt c.news k)) 0=some (ee x n) by
     unfold cc;rw[bn (by decide)];change (c.ar.set p.a.toNat (ee x n))[0]?=_;grind),o1,ak,Bool.true_or]
   rw[rS (x:=cE) (show cc (fV (setW c p.a (ee x n)) (cutAt c.news k)) 0=some cE by
    unfold cc;rw[bn (by decide)];exact Y0 (DQ o8) (fun q=>hi q.symm))]
   exact ak
  refine⟨fun bF=>?_,fun bF j z bk bd=>?_,?_⟩
  ·have ak:hh e c=false:=by
    grind
   obtain⟨t1,t2⟩:=h.first ak
   unfold nO at t1 ⊢;unfold nj at t2 ⊢;rw[ft]at t1 t2 ⊢;refine⟨fun z bd=>?_,?_⟩
   ·rcases iq bd with bd | rfl
    ·exact t1 z bd
    grind
   rw[ft];exact fun m hm=>t2 m (Rc m hm)
  ·have ak:=mf bF;rcases xP bd with⟨rfl,rfl⟩ | ⟨cX,bd⟩
   ·rw[o1];rcases h.reach ak _ x bk i2 with bx | ⟨m,bx,b0,ci⟩
    ·grind
    rcases Re m bx with bx | rfl
    ·exact .inr ⟨m,bx,b0,ci⟩
    grind
   rcases h.reach ak j z bk bd with bx | ⟨m,bx,b0,ci⟩
   ·exact .inl bx
   rcases Re m bx with bx | rfl
   ·exact .inr ⟨m,bx,b0,ci⟩
   grind
  obtain⟨b,fb,fY,r8⟩:=h.flag;refine⟨b,fun z bd d lW By=>?_,fun m hm=>fY m (Rc m hm),fun bF aw z bd=>?_⟩
  ·rcases iq bd with bd | rfl
   ·grind
   unfold ee at lW;split at lW
   ·grind
   rcases ia.1 lW with lW | lW
   ·grind
   grind
  rcases iq bd with bd | rfl
  ·grind
  rw[(Hz (x:=x) (n:=n) (e:=e)).2.2];grind
end Go.Proofs.YtdchjefneblpgaaGreat
namespace Go.Proofs.YtdchjefneblpgaaGreat
open Go.Sx Go.RowKit
def cp(e:Int)(c:aT):Nat:=if hh e c=true then 0 else 1
def r5(c:aT):Prop:=c.news.length+2*(cp 0 c+cp 1 c+cp 2 c+cp 3 c)<=8
variable{c d:aT}{i e:Int}{x:aK}
theorem avK{y:aK}(af:cc c i=some x)(hw:d.ar=c.ar.set i.toNat y)(h:ev x e=true->ev y e=true):hh e c=true->hh e d=true:=by
 intro ak;obtain⟨_,_,lI⟩:=eO af;unfold hh cc at ak ⊢;grind
theorem DJ{d:aT}{y:aK}(af:cc c i=some x)(hw:d.ar=c.ar.set i.toNat y)(h:ev x e=true->ev y e=true):cp e d<=cp e c:=by
 unfold cp;by_cases ak:hh e c=true
 ·rw[bn ak,bn (avK af hw h ak)];grind
 grind
theorem vF{y:aK}(h:r5 c)(af:cc c i=some x)(hw:d.ar=c.ar.set i.toNat y)(aE:∀e,ev x e=true->ev y e=true)(aZ:d.news.length<=c.news.length):r5 d:=by
 have fH:=DJ (d:=d) af hw (aE 0);have gO:=DJ (d:=d) af hw (aE 1);have j9:=DJ (d:=d) af hw (aE 2);have uE:=DJ (d:=d) af hw (aE 3);grind[r5]
theorem r5.step{p:b'}(h:r5 c)(al:c.ar.length<=3)(st:Step c p d):r5 d:=by
 cases st with
 | work x r q hk af ao aH=>exact vF h af rfl (fun _ k=>k) (fg _)
 | input x r t hk af ao aH hi=>exact vF h af rfl (fun _ k=>k) (fg _)
 | e3 x r t hk af ao a7=>exact vF h af rfl (fun _ k=>k) (fg _)
 | send x r t l hk af ao a7 mQ hsend=>exact vF h af rfl (fun _ k=>k) (fg _)
 | take l x hk eb mQ af bG=>exact vF h af rfl (fun _ k=>k) (fg _)
 | p0 l hk eb mQ ak=>exact h
 | token t x cE hk iI bO aE bG af q6=>
  rcases pB c p.a t x with⟨_,k⟩ | ⟨_,_,⟨_,k⟩ | ⟨_,_,k⟩ | ⟨_,sq,_,k⟩ | ⟨_,_,_,k⟩⟩
  ·grind
  ·rw[k];exact vF h af rfl (fun _ k=>k) (fg _)
  ·rw[k];exact vF h af rfl (fun _ k=>k) (fg _)
  ·rw[k];have bd:t.place=0:=by have:=(eO af).1;omega
   rw[bd,bO]at af;obtain rfl:cE=x:=gJ af;simp only[av,ck]at iI;generalize EV:fV (setW (cJ c p.a ⟨false,t.place,t.sum,t.bL,t.cf⟩) 0 (told cE p.a (t.cf||cE.bj.getD p.a.toNat false))) (c.news++gh (c.ar.length-1) p.a (t.cf||cE.bj.getD p.a.toNat false))=D;have hw:D.ar=c.ar.set (0:Int).toNat (told cE p.a (t.cf||cE.bj.getD p.a.toNat false)):=by rw[<-EV];rfl
   have ve:D.news.length<=c.news.length+2:=by
    grind[fV,hs,gh,ct,ww]
   have mono:∀e,cp e D<=cp e c:=fun e=>DJ bO hw fun k=>by rw[vC,k,Bool.true_or]
   have own:cp p.a D=0/\cp p.a c=1:=by
    have aCD:cc D 0=some (told cE p.a (t.cf||cE.bj.getD p.a.toNat false)):=by
     simp_all[cc,bn,decide,vB,eO]
    simp_all[cp,rS,vC]
   grind[r5,own]
  rw[k];exact h
 | p' k n x hk aZ aE af=>
  refine vF (y:=ee x n) h af rfl (fun e q=>by rw[Hy,q,Bool.true_or]) ?_;exact We _ _
structure Live (P:kv) (S:Int) (c:aT):Prop where
 run:qM P S c
 fin:∀e:Int,0<=e/\e<=3->Fin e c
 news:r5 c
 small:c.ar.length<=3
variable{P:kv}{S:Int}
theorem Live.step(h:Live P S c)(hv:S<200000)(p:b'):Live P (S+1) (cY c p).1:=by
 have h1:=h.run.step hv p;have al:=(Nc c p).wj;rcases wa c p with⟨_,U⟩ | ⟨_,_,st⟩
 ·rw[U]at h1 ⊢;exact⟨h1,h.fin,h.news,h.small⟩
 exact⟨h1,fun e he=>(h.fin e he).step (h.run.all.inv e he) he h.run.all.ok st,h.news.step h.small st,by rw[al];exact h.small⟩
theorem Live.runs:∀(l:List b') {S:Int} {c:aT},Live P S c->S+l.length<=200000->Live P (S+l.length) (cU c l).1
 | [],S,c,h,_=>by grind[cU]
 | p::l,S,c,h,hv=>by
  simp only[gQ]at hv ⊢;have:=Live.runs l (h.step (by omega) p) (by omega);simp only[cU];rw[show S+((l.length+1:Nat):Int)=S+1+l.length by omega];exact this
theorem Live.mono{T:Int}(h:Live P S c)(iX:S<=T):Live P T c:=⟨⟨h.run.all.mono iX,h.run.of⟩,h.fin,h.news,h.small⟩
variable{g:bV}{xs:List az}
theorem Live.new(ax:kW g)(af:∀r∈xs,Input r)(al:xs.length<=5):∃P:kv,P.xs=xs/\Live P 0 (eP g xs):=by
 have aZ:=Gz ax (by omega) af;obtain⟨⟨k,a,b,c,v,hk,ai,aw,_,bI,lq⟩,hw,_⟩:=ax;have RR:∀x∈(eP g xs).ar,∃w:Nat,x=lb (own g xs w):=fun x af=>by
  obtain⟨i,hi⟩:=List.getElem?_of_mem af;exact⟨i,(HE hi).1⟩
 have hlen:(eP g xs).ar.length=g.ar.toNat:=z' g xs _;have mf:∀e,hh e (eP g xs)=false:=fun e=>by
  obtain⟨cE,o8⟩:∃cE,cc (eP g xs) 0=some cE:=pA (by decide) (by grind);rw[rS o8];obtain⟨w,rfl⟩:=RR cE (c9 (DQ o8));rfl
 refine⟨⟨k,a,b,c,v,xs⟩,rfl,⟨kV.new aZ,hk,ai,aw,bI,lq,af,⟨fun x o7 r aD=>?_,fun l al r aD=>?_,fun x o7 r aD=>?_⟩⟩,fun e he=>⟨fun _=>⟨?_,rfl⟩,fun bF=>?_,⟨false,fun x o7 d aE=>?_,fun n aZ=>?_,fun bF=>?_⟩⟩,?_,by grind⟩
 ·grind[lb]
 ·rw[List.eq_of_mem_replicate al]at aD;grind[kP]
 ·obtain⟨w,rfl⟩:=RR x o7;exact (HD aD).1
 ·grind[nO,ft,ev,lb]
 ·grind
 ·grind[lb]
 ·grind[eP]
 ·grind
 grind[r5,cp,eP]
theorem HM{e:Int}(h:kV S c)(al:c.ar.length<=3):jm e c<=11:=by
 unfold jm;split
 ·omega
 cases bG:hR c e with
 | none=>grind
 | some t=>
  obtain⟨⟨h1,U⟩,_⟩:=sE.1 (zS h.ok bG);have vg:=(fz.1 h.ok).2.1;grind[qB]
theorem avL(h:Live P S c):sK c<=140:=by
 have t0:=HM (e:=0) h.run.all h.small;have t1:=HM (e:=1) h.run.all h.small;have t2:=HM (e:=2) h.run.all h.small;have t3:=HM (e:=3) h.run.all h.small;have aZ:=h.news;grind[r5,sK]
theorem Ze(b:Bool)(l:List Bool):mM (b::l)=(if b=true then 1 else 0)+mM l:=by
 grind[mM]
theorem HN:∀(l:List b') {S:Int} {c:aT},Live P S c->S+l.length<=200000->Still c->Still (cU c l).1/\sK (cU c l).1+mM (cU c l).2<=sK c
 | [],S,c,_,_,ao=>⟨ao,fg _⟩
 | p::l,S,c,h,hv,ao=>by
  simp only[gQ]at hv;simp only[cU,Ze];rcases wa c p with⟨cS,bt⟩ | ⟨_,cS,st⟩
  ·rw[bt,cS,bw (by decide),dV];exact HN l (h.mono (T:=S+1) (by omega)) (by omega) ao
  obtain⟨s1,s2⟩:=avJ h.run.all ao h.small st;obtain⟨i1,i2⟩:=HN l (h.step (by omega) p) (by omega) s1;grind
theorem Zf:∀(l:List b') (c:aT),mM (cU c l).2=0->(cU c l).1=c/\∀p∈l,(cY c p).2=false
 | [],c,_=>⟨rfl,fun p hp=>by cases hp⟩
 | p::l,c,h=>by
  simp only[cU,Ze]at h ⊢;cases aw:(cY c p).2 with
  | true=>grind
  | false=>
   rw[arf aw]at h ⊢;obtain⟨h1,U⟩:=Zf l c (by omega);refine⟨h1,fun q aH=>?_⟩;rcases eH.1 aH with rfl | aH
   ·exact aw
   exact U q aH
theorem Zg{P:kv}:∀(m:Nat) {S:Int} {c:aT} (k M:Nat),Live P S c->S+44*m<=200000->M<m->((Still c/\sK c<=M)\/fR P c+141<=M)->
  ∃(d:aT) (j:Nat) (T:Int),eG m c k=(d,k+j)/\j<=M+1/\Live P T d/\T<=200000/\d.ay=c.ay/\∀p∈ff d,(cY d p).2=false
 | 0,S,c,k,M,_,_,abV,_=>by omega
 | m+1,S,c,k,M,h,hv,abV,ak=>by
  obtain⟨_,E1⟩:=Pe (iR (fz.1 h.run.all.ok).1);unfold eG;by_cases bO:(gG c).2=0
  ·rw[bn bO];obtain⟨h5,iy⟩:=Zf (ff c) c bO;exact⟨c,1,S,by grind[gG],by omega,h,by omega,rfl,iy⟩
  rw[bw bO];have al:Live P (S+44) (gG c).1:=(h.runs (ff c) (by omega)).mono (by omega);have va:=(Dz c).ay;have next:(Still (gG c).1/\sK (gG c).1<=M-1)\/fR P (gG c).1+141<=M-1:=by
   by_cases ao:Still c
   ·obtain⟨s1,s2⟩:=HN (ff c) h (by omega) ao;grind[mM,cU,ff,Nat.pos_of_ne_zero,gG,avL]
   rcases ak with⟨ak,_⟩ | ak
   ·grind
   have bS:=avF h.run (by omega) ao;grind
  have aCL:1<=M:=by
   rcases ak with⟨ao,ak⟩ | ak
   ·obtain⟨_,s2⟩:=HN (ff c) h (by omega) ao;have aE:0<mM (cU c (ff c)).2:=Nat.pos_of_ne_zero bO;omega
   omega
  obtain⟨d,j,T,e1,e2,cj,d',hj,k2⟩:=Zg m (k+1) (M-1) al (by omega) (by omega) next;exact⟨d,j+1,T,by grind,by omega,cj,d',hj.trans va,k2⟩
structure AW (c:aT):Prop where
 still:Still c
 done:∀e:Int,0<=e/\e<=3->∀x∈c.ar,ev x e=true
 news:c.news=[]
theorem avM(he:0<=e/\e<=3):(⟨6,e,0⟩:b')∈ff c:=by
 have E4:e=0\/e=1\/e=2\/e=3:=by omega
 unfold ff;refine iC _ ?_;rcases E4 with rfl | rfl | rfl | rfl<;>decide
theorem Live.ended{T:Int}(h:Live P T c)(iX:T<=200000)(iJ:∀p∈ff c,(cY c p).2=false):AW c:=by
 have bW:=h.run.all.ok;obtain⟨ax,vg,_⟩:=fz.1 bW;have aZ:=iR ax;have ao:Still c:=Yk bW fun p hp _=>⟨c,T,bW,h.run.all.uO,iX,.rfl,iJ p hp⟩
 have jU:c.news=[]:=by
  cases lq:c.news with
  | nil=>rfl
  | cons n ns=>
   exfalso;have aw:=M' bW (k:=0) (n:=n) (by rw[lq];rfl);simp only[lE,av,gl,kd,ck]at aw;obtain⟨w,hw⟩:∃w:Nat,n.dest=w:=⟨n.dest.toNat,by omega⟩
   obtain⟨x,af⟩:∃x,cc c (w:Int)=some x:=pA (by omega) (by omega);have hp:=iJ ⟨7,w,0⟩ (by
    unfold ff;rw[Pd aZ];exact hD _ (hD _ (Yj (w:=w) (by omega) (by simp[jC]))))
   have bF:c.news.findIdx? (fun m=>m.dest==(w:Int))=some 0:=by
    grind
   have b1:cY c ⟨7,(w:Int),0⟩=jF c w:=rfl;simp_all[jF,bn]
 refine⟨ao,fun e he x af=>?_,jU⟩;obtain⟨cE,o8⟩:∃cE,cc c 0=some cE:=pA (by decide) (by omega);obtain⟨t,bG⟩:=Wu bW (e:=e) (by simp_all[av,ck]);obtain⟨⟨hq,sC⟩,_⟩:=sE.1 (zS bW bG);obtain⟨y,bD⟩:∃y,cc c t.place=some y:=pA hq (by omega);have mf:ev cE e=true:=by
  refine Classical.byContradiction fun aE=>?_
  have aE:ev cE e=false:=by grind
  have hp:=iJ ⟨6,e,0⟩ (avM he);have bu:cY c ⟨6,e,0⟩=dE c e t y:=by
   change ij c e=_;unfold ij;rw[bn (by simp_all[av,oJ,ck]),o8,bG];grind
  rw[bu]at hp;have adi:=(ao.quiet e).1 y (c9 (eO bD).2.2);unfold dE at hp;rw[bn adi]at hp;cases ax:t.going with
  | false=>grind
  | true=>
   rw[ax,bw (by decide)]at hp;split at hp
   ·split at hp
    ·cases hp
    rename_i acJ;refine acJ ?_;have fb:=h.run.all.uO.wh t (c9 (xG bG).2.2) ax;have fY:=h.run.all.uO.at bD e.toNat;simp only[av,ck];omega
   grind
 obtain⟨i,hi⟩:=List.getElem?_of_mem af;by_cases lo:i=0
 ·grind[DQ]
 rcases (h.fin e he).reach (by grind[rS]) i x (by omega) hi with r | ⟨n,r,_⟩
 ·exact r
 grind
theorem avN(ax:kW g)(af:∀r∈xs,Input r)(al:xs.length<=5)(uY:P.xs=xs)(ak:Live P S c)(hv:S<=60000)(aDs:fR P c<=xs.length*554):
  ∃(d:aT) (j:Nat) (T:Int),jj c 3000=(d,j)/\j<3000/\Live P T d/\T<=200000/\d.ay=c.ay/\AW d/\∀p∈ff d,(cY d p).2=false:=by
 have aw:(fT 3000 0 3000).toNat=3000:=by decide
 obtain⟨d,j,T,e1,e2,cj,d',hj,k2⟩:=Zg (P:=P) 3000 (c:=c) 0 2911 ak (by omega) (by omega) (.inr (by omega));refine⟨d,j,T,?_,by omega,cj,d',hj,cj.ended d' k2,k2⟩;simp_all[jj,dV]
theorem Pf:∀(l:List b') {S:Int} {c:aT},qM P S c->S+l.length<=200000->fR P (cU c l).1<=fR P c
 | [],_,c,_,_=>fg _
 | p::l,S,c,h,hv=>by
  simp only[gQ]at hv;have eg:=Pf l (h.step (by omega) p) (by omega);simp only[cU];rcases wa c p with⟨_,bt⟩ | ⟨_,_,st⟩
  ·rw[bt]at eg ⊢;exact eg
  have:=YA h.of h.all.owns h.all.ok st;omega
structure Grown (g:bV) (xs:List az) (c:aT):Prop where
 drawn:kW g
 input:∀r∈xs,Input r
 few:xs.length<=5
 live:∃(P:kv) (S:Int),P.xs=xs/\Live P S c/\S<=60000/\fR P c<=xs.length*554
 ay:c.ay=g
theorem Grown.new(ax:kW g)(af:∀r∈xs,Input r)(al:xs.length<=5):Grown g xs (eP g xs):=by
 obtain⟨P,uY,h⟩:=Live.new ax af al;subst uY;exact⟨ax,af,al,⟨P,0,rfl,h,by omega,YC (Gz ax (by omega) af) af⟩,rfl⟩
end Go.Proofs.YtdchjefneblpgaaGreat
namespace Go.Proofs.YtdchjefneblpgaaGreat
open Go.Sx Go.RowKit
