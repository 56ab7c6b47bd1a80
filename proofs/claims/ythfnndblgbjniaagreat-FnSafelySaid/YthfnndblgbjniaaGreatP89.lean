import Derived.Test.YthfnndblgbjniaaGreatP111
set_option linter.unusedVariables false
set_option linter.unusedSimpArgs false
namespace Go.Proofs.YthfnndblgbjniaaGreat
open Go.Sx Go.RowKit
def Still(c:aO):Prop:=(∀x∈c.aq,x.queue=[]/\x.b9=[]/\x.bM=[])/\(∀l∈c.bn,l.queue=[])/\∀(a b:Int) l,a≠b->eF c (d' c.au a b)=some l->l.back=0
section
variable {c : aO} {S b : Int}
variable{i:Int}{x:aK}
theorem ay7(bY:cx c=true)(ag:cd c i=some x)(ao:x.b9=[])(h:(cX c ⟨1,i,b⟩).2=false):x.queue=[]:=by
 have ay:=(fp.1 bY).1;have hw:=jU bY ag;cases aH:x.queue with
 | nil=>rfl
 | cons r q=>
  grind[cX,ju,e0]
theorem ay8(bY:cx c=true)(ag:cd c i=some x)(ao:x.b9=[])(aH:x.queue=[])(h:(cX c ⟨2,i,b⟩).2=false):x.bM=[]:=by
 have ay:=(fp.1 bY).1;have hw:=jU bY ag;cases hi:x.bM with
 | nil=>rfl
 | cons r q=>
  grind[cX,jv,e3]
theorem ZT(bY:cx c=true){j:Int}{l:bj}(oD:i≠j)(al:eF c (d' c.au i j)=some l)(h:(cX c ⟨5,i,j⟩).2=false):l.back=0:=by
 have hk:=(oO.1 (r6 bY al)).1;have cZ:(i != j)=true:=by grind
 refine Classical.byContradiction fun aw=>?_
 simp_all[true,cX,jw,fQ]
theorem ay9(bY:cx c=true){j:Int}{l:bj}(oD:i≠j)(al:eF c (d' c.au i j)=some l)(ag:cd c j=some x)(h:(cX c ⟨4,i,j⟩).2=false):l.queue=[]:=by
 have hk:=(oO.1 (r6 bY al)).1;have cZ:(i != j)=true:=by grind
 grind[cX,jS,dH]
theorem aza(bY:cx c=true)(aw:jk S c)(fF:S<=200000)(ag:cd c i=some x)(ai:∀j l,j≠i->eF c (d' c.au i j)=some l->l.eb≠0)(h:(cX c ⟨3,i,b⟩).2=false):x.b9=[]:=by
 have aW:=iz (fp.1 bY).1;have hlen:=(fp.1 bY).2.1;obtain⟨i0,i1,_⟩:=eR ag;cases ao:x.b9 with
 | nil=>rfl
 | cons r t=>
  exfalso;have aA:(cX c ⟨3,i,b⟩).2=(r5 c i x r t (eZ r.key c.au.aq)).2:=by
   grind[cX,je]
  rw[aA]at h;unfold r5 at h;split at h
  ·cases h
  rename_i a8;have hi:ax i 0 (c.au.aq-1)=true:=by simp only[ax,cj];omega
  obtain⟨l,al⟩:=x' bY hi (DK r.key aW.1);have hk:=(oO.1 (r6 bY al)).1;have aF6:=aw.ek l (cD (iK al).2.2);have pt:=ai _ l a8 al;have aC:=(iB.1 (jU bY ag)).2.1;rw[ao,qI]at aC;have aC:=aC.1;simp only[kl,fC,jC]at aC;have aF5:(eh l r).2=true:=by
   unfold eh;grind
  grind
end
theorem ZU{n w:Nat}(h:w<n){p:b7}(hp:p∈jQ w):p∈mG n:=by
 grind[mG]
theorem azb{n a b:Nat}(ah:a<n)(aw:b<n){p:b7}(hp:p∈lv a b):p∈nt n n:=by
 unfold nt qJ;grind
theorem PJ{g:bX}(h:1<=g.aq/\g.aq<=4):gd g.aq 0 4=g.aq:=by
 unfold gd;grind
theorem azc{n:Int}(aW:1<=n/\n<=4){k:Nat}(hk:(k:Int)<n*n):∃a b:Nat,(a:Int)<n/\(b:Int)<n/\(k:Int)=a*n+b:=by
 have aJ:n=1\/n=2\/n=3\/n=4:=by omega
 refine⟨((k:Int) / n).toNat,((k:Int) % n).toNat,?_⟩;grind
structure Same (c d:aO):Prop where
 au:d.au=c.au
 bn:d.bn=c.bn
 len:d.aq.length=c.aq.length
 w:∀(i:Nat) x,c.aq[i]?=some x->∃y,d.aq[i]?=some y/\y.queue=x.queue/\y.b9=x.b9/\y.bM=x.bM
variable{c:aO}
theorem Same.rfl:Same c c:=⟨Eq.refl _,Eq.refl _,Eq.refl _,fun _ x h=>⟨x,h,Eq.refl _,Eq.refl _,Eq.refl _⟩⟩
variable{d:aO}
theorem Same.trans{e:aO}(h:Same c d)(k:Same d e):Same c e:=⟨k.au.trans h.au,k.bn.trans h.bn,k.len.trans h.len,fun i x ag=>by
 obtain⟨y,bu,h1,U,aA⟩:=h.w i x ag;obtain⟨z,bb,cA,bm,eK⟩:=k.w i y bu;grind⟩
theorem Same.cd(h:Same c d){i:Int}{x:aK}(ag:cd c i=some x):∃y,cd d i=some y/\y.queue=x.queue/\y.b9=x.b9/\y.bM=x.bM:=by
 obtain⟨bJ,_,U⟩:=eR ag;unfold Go.Proofs.YthfnndblgbjniaaGreat.cd;rw[bq bJ];exact h.w _ x U
theorem Same.eF(h:Same c d)(a b:Int):eF d (d' d.au a b)=eF c (d' c.au a b):=by
 unfold Go.Proofs.YthfnndblgbjniaaGreat.eF;rw[h.bn,h.au]
theorem Same.set{i:Int}{x y:aK}(ag:Go.Proofs.YthfnndblgbjniaaGreat.cd c i=some x)(h1:d.au=c.au)(U:d.bn=c.bn)(aA:d.aq=c.aq.set i.toNat y)(aJ:y.queue=x.queue)(a7:y.b9=x.b9)(bw:y.bM=x.bM):Same c d:=
 ⟨h1,U,by grind,fun j z bb=>by
  rw[aA];by_cases bf:j=i.toNat
  ·subst bf;rw[(eR ag).2.2]at bb;simp_all[we,eR]
  grind⟩
def E5(c:aO)(p:b7):Prop:=∃(d:aO) (S:Int),cx d=true/\jk S d/\S<=200000/\Same c d/\(cX d p).2=false
theorem PK(bY:cx c=true)(jH:∀p∈fB c,p.kind<=5->E5 c p):Still c:=by
 obtain⟨ay,ui,B4,_⟩:=fp.1 bY;have aW:=iz ay;obtain⟨n,lI⟩:∃n:Nat,c.au.aq=n:=⟨c.au.aq.toNat,by omega⟩
 have aez:∀p∈mG n,p∈fB c:=fun p hp=>by
  grind[fB,PJ,lz,hJ]
 have aeA:∀p∈nt n n,p∈fB c:=fun p hp=>by
  grind[fB,PJ,lz,hJ,iN]
 have four:∀w:Nat,w<n->∀p∈jQ w,p.kind<=5->E5 c p:=fun w hw p hp hk=>jH p (aez p (ZU hw hp)) hk
 have two:∀a b:Nat,a<n->b<n->∀p∈lv a b,p.kind<=5->E5 c p:=fun a b ah vu p hp hk=>jH p (aeA p (azb ah vu hp)) hk
 have inr:∀a:Nat,a<n->ax (a:Int) 0 (c.au.aq-1)=true:=fun a ah=>by simp only[ax,cj];omega
 have bn:∀a b:Nat,a<n->b<n->a≠b->∀l,eF c (d' c.au a b)=some l->l.queue=[]/\l.back=0:=fun a b ah vu ec l al=>by
  obtain⟨x,ag⟩:=pY (c:=c) (i:=(b:Int)) (by omega) (by omega);have m4:(⟨4,(a:Int),(b:Int)⟩:b7)∈lv a b:=by grind[lv]
  have m5:(⟨5,(a:Int),(b:Int)⟩:b7)∈lv a b:=by grind[lv]
  obtain⟨d,S,d1,d2,d3,d4,d5⟩:=two a b ah vu _ m4 (by grind);obtain⟨f,T,f1,f2,f3,f4,f5⟩:=two a b ah vu _ m5 (by grind);obtain⟨y,bu,_⟩:=d4.cd ag;exact⟨ay9 d1 (by omega) ((d4.eF _ _).trans al) bu d5,ZT f1 (by omega) ((f4.eF _ _).trans al) f5⟩
 have acX:∀a:Nat,a<n->∀(j:Int) l,j≠a->eF c (d' c.au a j)=some l->l.eb≠0:=fun a ah j l bf al=>by
  obtain⟨_,g2⟩:=HJ (iK al).1;simp only[ax,cj]at g2;obtain⟨b,rfl⟩:∃b:Nat,j=b:=⟨j.toNat,by omega⟩
  obtain⟨q1,ie⟩:=bn a b ah (by omega) (by omega) l al;obtain⟨cA,_,_,pD,_⟩:=n4.1 (oO.1 (r6 bY al)).1;simp only[ax,cj]at cA;grind
 refine⟨?_,?_,fun a b l ec al=>?_⟩
 ·intro x ag;obtain⟨w,hw⟩:=List.getElem?_of_mem ag;have aGc:=aY hw;have py:cd c (w:Int)=some x:=by simp_all[cd,bq]
  obtain⟨d,S,d1,d2,d3,d4,d5⟩:=four w (by omega) ⟨3,w,0⟩ (by simp[jQ]) (by grind);obtain⟨y,bu,eH,e4,abV⟩:=d4.cd py;have ao:=aza d1 d2 d3 bu (fun j l bf al=>acX w (by omega) j l bf ((d4.eF _ _).symm.trans al)) d5;rw[e4]at ao;obtain⟨f,T,f1,f2,f3,f4,f5⟩:=four w (by omega) ⟨1,w,0⟩ (by simp[jQ]) (by grind);obtain⟨z,bb,si,z2,z3⟩:=f4.cd py;have aH:=ay7 f1 bb (z2.trans ao) f5;rw[si]at aH;obtain⟨u,aEC,gD,ko,u6,aD5,aGL⟩:=four w (by omega) ⟨2,w,0⟩ (by simp[jQ]) (by grind);obtain⟨v,bF,v1,v2,v3⟩:=aD5.cd py;grind[ay8]
 ·intro l al;obtain⟨k,hk⟩:=List.getElem?_of_mem al;have zr:=aY hk;obtain⟨a,b,ah,vu,e⟩:=azc aW (k:=k) (by omega);obtain⟨ic,sZ,_,F3,aGu⟩:=x9 aW (inr a (by omega)) (inr b (by omega));have mZ:eF c (d' c.au a b)=some l:=by
   unfold eF;rw[ic,bq sZ,<-e];simpa using hk
  by_cases ec:a=b
  ·subst ec;have aFo:=oO.1 (r6 bY mZ);grind[d',Nat,Int,Pq]
  grind
 obtain⟨g1,g2⟩:=HJ (iK al).1;simp only[ax,cj]at g1 g2;obtain⟨i,rfl⟩:∃i:Nat,a=i:=⟨a.toNat,by omega⟩
 obtain⟨j,rfl⟩:∃j:Nat,b=j:=⟨b.toNat,by omega⟩
 grind
theorem azd{S:Int}(h:iP S c)(fF:S<=200000)(al:pX c≠[]\/∃x∈c.aq,x.bM≠[]):yg c=true:=by
 cases ai:yg c with
 | true=>rfl
 | false=>
  exfalso;unfold yg at ai;rw[fx]at ai;obtain⟨s1,s2,_⟩:=PK h.ok fun p hp _=>⟨c,S,h.ok,h.sx,fF,.rfl,by grind⟩
  grind[pX,List.append_eq_nil_iff,List.flatMap_eq_nil_iff,j9]
end Go.Proofs.YthfnndblgbjniaaGreat
namespace Go.Proofs.YthfnndblgbjniaaGreat
open Go.Sx Go.RowKit
structure q6 (P:kM) (S:Int) (c:aO):Prop where
 all:iP S c
 of:P.Bi c
variable{P:kM}{c:aO}
theorem q6.step{S:Int}(h:q6 P S c)(fF:S<200000)(p:b7):q6 P (S+1) (cX c p).1:=by
 refine⟨h.all.step fF p,?_⟩;rcases v8 c p with⟨_,U⟩ | ⟨_,_,st⟩
 ·rw[U];exact h.of
 exact h.of.step h.all.ok st (OE c p).au
theorem ZV{d:aO}{p:b7}(st:Step c p d)(hk:5<p.kind):Same c d:=by
 cases st with
 | work x r q j'=>omega
 | input x r t j'=>omega
 | e9 x r t j'=>omega
 | send x r t l j'=>omega
 | take l x j'=>omega
 | qc l j'=>omega
 | token t x cE j' iU bJ aE bK ag rq=>
  rcases pZ c p.a t x with⟨_,k⟩ | ⟨_,_,⟨_,k⟩ | ⟨_,_,k⟩ | ⟨_,bJ,_,k⟩ | ⟨_,_,_,k⟩⟩
  ·grind
  ·rw[k];exact .set ag rfl rfl rfl rfl rfl rfl
  ·rw[k];exact .set ag rfl rfl rfl rfl rfl rfl
  ·rw[k];have bb:t.place=0:=by have:=(eR ag).1;omega
   rw[bb]at ag;exact .set ag rfl rfl rfl rfl rfl rfl
  rw[k];exact⟨rfl,rfl,rfl,Same.rfl.w⟩
 | qo k n x j' aW aE ag=>
  refine .set (y:=eg x n) ag rfl rfl rfl ?_ ?_ ?_<;>(unfold eg;split<;>rfl)
def HS:List b7->Bool
 | []=>true
 | p::l=>(if p.kind=4 then (match l with | q::_=>decide (q=⟨5,p.a,p.b⟩) | []=>false) else true)&&HS l
theorem PL(aW:1<=c.au.aq/\c.au.aq<=4):HS (fB c)=true/\(fB c).length<=44:=by
 have h:c.au.aq=1\/c.au.aq=2\/c.au.aq=3\/c.au.aq=4:=by omega
 unfold fB;rcases h with h | h | h | h<;>(rw[h];decide +kernel)
theorem aze{i:Int}{l m:bj}(h:eF c i=some l):eF (dd c i m) i=some m:=by
 simp_all[iK,eF,dd,bq,we]
theorem ZW:∀(l:List b7) {S:Int} {c:aO},q6 P S c->S+l.length<=200000->HS l=true->
  fW P (dg c l).1<=fW P c/\(fW P (dg c l).1=fW P c->Same c (dg c l).1/\∀p∈l,p.kind<=5->E5 c p)
 | [],S,c,h,fF,_=>⟨fi _,fun _=>⟨.rfl,fun p hp=>by cases hp⟩⟩
 | p::l,S,c,h,fF,hp=>by
  simp only[gT]at fF;simp only[HS,cu]at hp;have h1:=h.step (by omega) p;obtain⟨i1,i2⟩:=ZW l h1 (by omega) hp.2;simp only[dg];rcases v8 c p with⟨cA,bm⟩ | ⟨_,_,st⟩
  ·rw[bm]at i1 i2 ⊢;refine⟨i1,fun he=>?_⟩;obtain⟨qB,pC⟩:=i2 he;refine⟨qB,fun q aH hk=>?_⟩;rcases ev.1 aH with rfl | aH
   ·exact⟨c,S,h.all.ok,h.all.sx,by omega,.rfl,cA⟩
   grind
  have B9:=aan h.of h.all.owns h.all.ok st;refine⟨by omega,fun he=>?_⟩;have aeC:¬(p.kind<=5/\p.kind≠4):=fun aH=>by grind
  rw[bD aeC]at B9;obtain⟨qB,pC⟩:=i2 (by omega);by_cases aJ:p.kind=4
  ·exfalso;rw[bq aJ]at hp;cases l with
   | nil=>cases hp.1
   | cons q hf=>
    have aH:q=⟨5,p.a,p.b⟩:=by grind
    obtain⟨d,T,d1,d2,d3,d4,d5⟩:=pC q (h2 ..) (by grind);subst aH;generalize (cX c p).1=c1 at*;cases st with
    | work x r q j'=>omega
    | input x r t j'=>omega
    | e9 x r t j'=>omega
    | send x r t l j'=>omega
    | take l x j' ec al ag bK=>
     obtain⟨jn,r,q,aH,e2,e1⟩:=yb bK;have aw:=(n4.1 jn).2.2.1;simp only[ax,cj]at aw;have c4:eF (setW (dd c (d' c.au p.a p.b) (dH l).1) p.b (ii x (dH l).2.1)) (d' c.au p.a p.b)=some (dH l).1:=aze al;have bJ:=ZT d1 ec ((d4.eF p.a p.b).trans c4) d5;grind
    | qc l j'=>omega
    | token t x cE j'=>omega
    | qo k n x j'=>omega
  have aea:5<p.kind:=by omega
  have ao:=ZV st aea;refine⟨ao.trans qB,fun q aH hk=>?_⟩;rcases ev.1 aH with rfl | aH
  ·omega
  obtain⟨d,T,d1,d2,d3,d4,d5⟩:=pC q aH hk;exact⟨d,T,d1,d2,d3,ao.trans d4,d5⟩
theorem azf{S:Int}(h:q6 P S c)(fF:S+44<=200000)(aW:¬Still c):fW P (jf c).1<fW P c:=by
 obtain⟨dN,a2⟩:=PL (iz (fp.1 h.all.ok).1);obtain⟨h1,U⟩:=ZW (fB c) h (by omega) dN;refine Classical.byContradiction fun ai=>?_
 have he:fW P (dg c (fB c)).1=fW P c:=by
  grind[jf]
 exact aW (PK h.all.ok (U he).2)
theorem q6.run:∀(l:List b7) {S:Int} {c:aO},q6 P S c->S+l.length<=200000->q6 P (S+l.length) (dg c l).1
 | [],S,c,h,_=>by grind[dg]
 | p::l,S,c,h,fF=>by
  simp only[gT]at fF ⊢;have:=q6.run l (h.step (by omega) p) (by omega);simp only[dg];rw[show S+((l.length+1:Nat):Int)=S+1+l.length by omega];exact this
end Go.Proofs.YthfnndblgbjniaaGreat
namespace Go.Proofs.YthfnndblgbjniaaGreat
open Go.Sx Go.RowKit
def tB(e:Int)(c:aO)(k:Nat):Bool:=(c.aq.take k).all fun x=>!gF e x
def oa(e:Int)(c:aO)(k:Nat):Bool:=(c.aq.drop k).all fun x=>!gF e x
def ra(e:Int)(c:aO)(t:bQ):Bool:=!t.bN&&tB e c (t.place.toNat+1)&&decide (gR e c (t.place.toNat+1)+t.sum=0)
def qV(e:Int)(c:aO)(t:bQ):Nat:=
 if t.going=true then (if ra e c t=true then t.place.toNat+1 else if oa e c (t.place.toNat+1)=true then t.place.toNat+1+(c.aq.length+1) else t.place.toNat+1+(2*c.aq.length+2))
 else if oa e c 1=true then c.aq.length+1 else 2*c.aq.length+2
def hr(e:Int)(c:aO):Bool:=match cd c 0 with | some x=>eD x e | none=>true
def jy(e:Int)(c:aO):Nat:=if hr e c=true then 0 else match hZ c e with | some t=>qV e c t | none=>0
def td(c:aO):Nat:=3*(jy 0 c+jy 1 c+jy 2 c+jy 3 c)+c.news.length
theorem ZX{α:Type}(f:α->Bool){x:α}:∀{xs:List α} {i k:Nat},((xs.take k).all f=true)->f x=true->((xs.set i x).take k).all f=true
 | [],_,_,_,_=>by simp
 | a::xs,0,0,_,_=>by simp
 | a::xs,i+1,0,_,_=>by simp
 | a::xs,0,k+1,h,ag=>by
  grind
 | a::xs,i+1,k+1,h,ag=>by
  simp_all[List.set_cons_succ,List.take_succ_cons,List.all_cons,cu,ZX]
theorem ZY{α:Type}(f:α->Bool){x:α}:∀{xs:List α} {i k:Nat},((xs.drop k).all f=true)->f x=true->((xs.set i x).drop k).all f=true
 | [],_,_,_,_=>by simp
 | a::xs,0,0,h,ag=>by
  grind
 | a::xs,i+1,0,h,ag=>by
  grind
 | a::xs,0,k+1,h,_=>by simpa using h
 | a::xs,i+1,k+1,h,ag=>by
  have:=ZY f (xs:=xs) (i:=i) (k:=k) (by simpa using h) ag;simpa using this
variable{c:aO}{e:Int}
theorem sb{x:aK}(h:cd c 0=some x):hr e c=eD x e:=by
 grind[hr]
variable{x:aK}
theorem azg(al:x.bN.length=4)(he:0<=e/\e<=3):(!gF e (eB x e))=true:=by
 grind[gF,eB,HE]
section
variable {e : Int} {c : aO} {t u : bQ} {x : aK}
theorem ZZ(ag:cd c t.place=some x)(k:Nat):gR e (setW (cL c e u) t.place (eB x e)) k=gR e c k:=by
 have:=zX (fh e) (eB x e) (k:=k) (eR ag).2.2;rw[show fh e (eB x e)=fh e x from rfl,Int.sub_self,ite_self,Int.add_zero]at this;exact this
end
theorem Still.quiet(h:Still c)(e:Int):quiet e c:=by
 refine⟨fun x ag=>?_,?_⟩
 ·obtain⟨h1,U,aA⟩:=h.1 x ag;grind[n5]
 unfold iW;rw[xR (g:=fun _=>0) fun l al=>by unfold iy hF;rw[h.2.1 l al];rfl,DB]
theorem azh{S:Int}{t:bQ}{cE:aK}(h:iP S c)(ao:Still c)(he:0<=e/\e<=3)(bJ:cd c 0=some cE)(aE:eD cE e=false)(bK:hZ c e=some t)(ag:cd c t.place=some x)
  (rq:(dF c e t x).2=true):jy e (dF c e t x).1+1<=jy e c/\((dF c e t x).1.news=c.news\/((dF c e t x).1.news.length+1=c.news.length+c.aq.length/\hr e (dF c e t x).1=true)):=by
 obtain⟨gY,gN,lU⟩:=eR ag;obtain⟨_,FL,_⟩:=s7.1 (Am h.ok bK);have tW:=(Dx (jU h.ok ag)).2.1;have hw:=azg tW he;have total:gR e c c.aq.length=0:=by rw[(h.inv e he).total,(ao.quiet e).2];rfl
 have ai:jy e c=qV e c t:=by
  simp_all[jy,bD,sb,decide]
 have hlen:∀u:bQ,(setW (cL c e u) t.place (eB x e)).aq.length=c.aq.length:=fun u=>ho
 have lj:∀u:bQ,jy e (setW (cL c e u) t.place (eB x e))<=qV e (setW (cL c e u) t.place (eB x e)) u:=fun u=>by
  unfold jy;rw[show hZ (setW (cL c e u) t.place (eB x e)) e=some u from Pt bK];grind
 rcases pZ c e t x with⟨k,_⟩ | ⟨_,hp,⟨ay,k⟩ | ⟨ay,qu,k⟩ | ⟨ay,qu,aw,k⟩ | ⟨ay,qu,aw,k⟩⟩
 ·grind
 ·
  rw[k];refine⟨?_,.inl rfl⟩;have bb:=FL ay;refine nD (Nat.add_le_add_right (lj _) 1) ?_;rw[ai];unfold qV;rw[hlen,ay];dsimp only;have sM:((c.aq.length:Int)-1).toNat+1=c.aq.length:=by omega
  rw[sM,bq (rfl:true=true),bD (show ¬(false=true) by decide)];have tl:oa e (setW (cL c e ⟨true,(c.aq.length:Int)-1,0,false,x.bk.getD e.toNat false⟩) t.place (eB x e)) c.aq.length=true:=by
   simp_all[oa,List.drop_of_length_le,fi]
  rw[tl,bq (rfl:true=true)];by_cases sQ:oa e c 1=true
  ·rw[bq sQ];have bI:ra e (setW (cL c e ⟨true,(c.aq.length:Int)-1,0,false,x.bk.getD e.toNat false⟩) t.place (eB x e)) ⟨true,(c.aq.length:Int)-1,0,false,x.bk.getD e.toNat false⟩=true:=by
    unfold ra;dsimp only;rw[sM,ZZ ag,total];have:tB e (setW (cL c e ⟨true,(c.aq.length:Int)-1,0,false,x.bk.getD e.toNat false⟩) t.place (eB x e)) c.aq.length=true:=by
     unfold tB;rw[yS (by grind)];change (c.aq.set t.place.toNat (eB x e)).all _=true;rw[bb];unfold oa at sQ;cases aFu:c.aq with
     | nil=>grind
     | cons y ys=>
      grind
    grind
   grind
  grind
 ·
  rw[k];refine⟨?_,.inl rfl⟩;refine nD (Nat.add_le_add_right (lj _) 1) ?_;rw[ai];unfold qV;rw[hlen,ay];dsimp only;have sM:(t.place-1).toNat+1=t.place.toNat:=by omega
  rw[sM,bq (rfl:true=true),bq (rfl:true=true)];by_cases bI:ra e c t=true
  ·rw[bq bI];have aFB:ra e (setW (cL c e ⟨true,t.place-1,t.sum+x.bB.getD e.toNat 0,t.bN||x.bN.getD e.toNat false,t.cr||x.bk.getD e.toNat false⟩) t.place (eB x e)) ⟨true,t.place-1,t.sum+x.bB.getD e.toNat 0,t.bN||x.bN.getD e.toNat false,t.cr||x.bk.getD e.toNat false⟩=true:=by
    unfold ra at bI ⊢;simp only[cu,gp,cj]at bI;obtain⟨⟨f1,f2⟩,f3⟩:=bI;dsimp only;rw[sM,ZZ ag];rw[HH lU]at f3;unfold tB at f2;rw[o4,lU,Bd,List.all_append,cu]at f2;have dm:x.bN.getD e.toNat false=false:=by
     have:=f2.2;simp only[List.all_cons,List.all_nil,va,gp]at this;exact this
    have:tB e (setW (cL c e ⟨true,t.place-1,t.sum+x.bB.getD e.toNat 0,t.bN||x.bN.getD e.toNat false,t.cr||x.bk.getD e.toNat false⟩) t.place (eB x e)) t.place.toNat=true:=by
     unfold tB;exact ZX _ f2.1 hw
    grind[gR,fh,k']
   grind
  rw[bD bI];by_cases sQ:oa e c (t.place.toNat+1)=true
  ·rw[bq sQ];have:oa e (setW (cL c e ⟨true,t.place-1,t.sum+x.bB.getD e.toNat 0,t.bN||x.bN.getD e.toNat false,t.cr||x.bk.getD e.toNat false⟩) t.place (eB x e)) t.place.toNat=true:=by
    unfold oa;change ((c.aq.set t.place.toNat (eB x e)).drop t.place.toNat).all _=true;have al:t.place.toNat<(c.aq.set t.place.toNat (eB x e)).length:=by grind
    rw[List.drop_eq_getElem_cons al,List.all_cons,List.getElem_set_self,hw,lB];exact ZY _ sQ hw
   grind
  grind
 ·
  rw[k];have bb:t.place=0:=by omega
  rw[bb]at lU;have pu:hr e (gg (setW (cL c e ⟨false,t.place,t.sum,t.bN,t.cr⟩) 0 (told x e (t.cr||x.bk.getD e.toNat false))) (c.news++gv (c.aq.length-1) e (t.cr||x.bk.getD e.toNat false)))=true:=by
   unfold hr;rw[show cd (gg (setW (cL c e ⟨false,t.place,t.sum,t.bN,t.cr⟩) 0 (told x e (t.cr||x.bk.getD e.toNat false))) (c.news++gv (c.aq.length-1) e (t.cr||x.bk.getD e.toNat false))) 0=some (told x e (t.cr||x.bk.getD e.toNat false)) from we lU];grind[wg]
  refine⟨?_,.inr ⟨?_,pu⟩⟩
  ·unfold jy;rw[bq pu];change 0+1<=jy e c;rw[ai];unfold qV;grind
  grind[gg,f',gv,b',w3]
 -- A4 round was in aGM
 rw[k];refine⟨?_,.inl rfl⟩;have bb:t.place=0:=by omega
 rw[bb]at lU;have aet:ra e c t=false:=by
  rw[wW];intro bI;unfold ra at bI;simp only[cu,gp,cj]at bI;obtain⟨⟨f1,f2⟩,f3⟩:=bI;rw[bb]at f2 f3;have ao:gR e c 1=fh e x:=by rw[HH (k:=0) lU];simp[gR]
  refine aw ⟨f1,?_,?_⟩
  ·unfold tB at f2;change (c.aq.take 1).all _=true at f2;simp_all[o4,some,Bd,List.all_append,cu,gF]
  grind[gR,fh]
 have vv:jy e (cL c e ⟨false,t.place,t.sum,t.bN,t.cr⟩)<=qV e (cL c e ⟨false,t.place,t.sum,t.bN,t.cr⟩) ⟨false,t.place,t.sum,t.bN,t.cr⟩:=by
  unfold jy;rw[show hZ (cL c e ⟨false,t.place,t.sum,t.bN,t.cr⟩) e=some ⟨false,t.place,t.sum,t.bN,t.cr⟩ from Pt bK];grind
 refine nD (Nat.add_le_add_right vv 1) ?_;rw[ai];unfold qV;rw[ay,aet];dsimp only;rw[bD (show ¬(false=true) by decide),bq (rfl:true=true),bD (show ¬(false=true) by decide),bb];change (if oa e c 1=true then _ else _)+1<=(if oa e c 1=true then _ else _);by_cases sQ:oa e c 1=true
 ·rw[bq sQ,bq sQ];change c.aq.length+1+1<=0+1+(c.aq.length+1);omega
 rw[bD sQ,bD sQ];change 2*c.aq.length+2+1<=0+1+(2*c.aq.length+2);omega
theorem DC{i:Int}{d:aO}{y:aK}(ag:cd c i=some x)(hw:d.aq=c.aq.set i.toNat y)(bK:hZ d e=hZ c e)(aw:gF e y=gF e x)(ao:fh e y=fh e x)(aE:eD x e=true->eD y e=true):jy e d<=jy e c:=by
 obtain⟨gY,gN,lU⟩:=eR ag;have hlen:d.aq.length=c.aq.length:=by grind
 have FF:∀{β:Type} (f:aK->β),f y=f x->d.aq.map f=c.aq.map f:=fun f bI=>by
  grind[hL,Dw]
 have aFU:=FF (fun z=>!gF e z) (by rw[aw]);have aeo:=FF (fh e) ao;have e1:∀k,oa e d k=oa e c k:=fun k=>by
  have:∀ws:List aK,(ws.drop k).all (fun z=>!gF e z)=((ws.map fun z=>!gF e z).drop k).all id:=fun ws=>by
   rw[<-List.map_drop,List.all_map];rfl
  grind[oa]
 have e2:∀k,tB e d k=tB e c k:=fun k=>by
  have:∀ws:List aK,(ws.take k).all (fun z=>!gF e z)=((ws.map fun z=>!gF e z).take k).all id:=fun ws=>by
   rw[<-q3,List.all_map];rfl
  grind[tB]
 have ch:∀k,gR e d k=gR e c k:=fun k=>by
  grind[gR,q3]
 have dS:∀t,qV e d t=qV e c t:=fun t=>by
  grind[qV,ra]
 unfold jy;by_cases vv:hr e d=true
 ·grind
 have aFw:¬hr e c=true:=fun ai=>vv (by
  unfold hr cd at ai ⊢;grind)
 grind
theorem azi{f:Int}{t:bQ}(he:0<=e)(bI:0<=f)(cZ:f≠e)(ag:cd c t.place=some x):jy e (dF c f t x).1<=jy e c:=by
 have Ec:gF e (eB x f)=gF e x:=by
  grind[gF,eB,xM,zY]
 rcases pZ c f t x with⟨_,k⟩ | ⟨_,_,⟨_,k⟩ | ⟨_,_,k⟩ | ⟨_,bJ,_,k⟩ | ⟨_,_,_,k⟩⟩
 ·grind
 ·rw[k];exact DC ag rfl (wh he bI cZ) Ec rfl id
 ·rw[k];exact DC ag rfl (wh he bI cZ) Ec rfl id
 ·rw[k];have bb:t.place=0:=by have:=(eR ag).1;omega
  rw[bb]at ag;exact DC ag rfl (wh he bI cZ) rfl rfl fun q=>by rw[wg,q,Bool.true_or]
 rw[k];exact DC (y:=x) ag (Dw (eR ag).2.2).symm (wh he bI cZ) rfl rfl id
theorem azj{S:Int}{d:aO}{p:b7}(h:iP S c)(ao:Still c)(aW:c.aq.length<=3)(st:Step c p d):Still d/\td d<td c:=by
 have still:5<p.kind->Still d:=fun hk=>by
  have p4:=ZV st hk;refine⟨fun x ag=>?_,fun l al=>ao.2.1 l (p4.bn▸al),fun a b l ec al=>ao.2.2 a b l ec ((p4.eF a b).symm.trans al)⟩;obtain⟨i,hi⟩:=List.getElem?_of_mem ag;obtain⟨z,bb⟩:=c5 (xs:=c.aq) (i:=i) (by have:=aY hi;rw[p4.len]at this;exact this);obtain⟨y,bu,eH,e4,abV⟩:=p4.w i z bb;rw[hi]at bu;cases bu;rw[eH,e4,abV];exact ao.1 z (cD bb)
 cases st with
 | work x r q hk ag dr aH=>
  have:=(ao.1 x (cD (eR ag).2.2)).1;grind
 | input x r t hk ag dr aH hi=>
  have:=(ao.1 x (cD (eR ag).2.2)).2.2;grind
 | e9 x r t hk ag dr a8=>
  have:=(ao.1 x (cD (eR ag).2.2)).2.1;grind
 | send x r t l hk ag dr a8 al hsend=>
  have:=(ao.1 x (cD (eR ag).2.2)).2.1;grind
 | take l x hk ec al ag bK=>
  obtain⟨_,r,q,aH,_⟩:=yb bK;have:=ao.2.1 l (cD (iK al).2.2);grind
 | qc l hk ec al ai=>
  rcases yc l with⟨k,_⟩ | ⟨_,_,aw,_⟩
  ·grind
  exact absurd (ao.2.2 _ _ l ec al) aw
 | token t x cE hk iU bJ aE bK ag rq=>
  refine⟨still (by omega),?_⟩;simp only[ax,cj]at iU;obtain⟨cA,bm⟩:=azh h ao iU bJ aE bK ag rq;have aGr:∀e:Int,0<=e->p.a≠e->jy e (dF c p.a t x).1<=jy e c:=fun e he cZ=>azi he iU.1 cZ ag
  grind[dF,td,decide]
 | qo k n x hk zu aE ag=>
  refine⟨still (by omega),?_⟩;obtain⟨s1,s2,_⟩:fh 0 (eg x n)=fh 0 x/\gF 0 (eg x n)=gF 0 x/\lF 0 (eg x n)=lF 0 x:=HG;have o:∀e:Int,jy e (gg (setW c p.a (eg x n)) (cutAt c.news k))<=jy e c:=fun e=>by
   obtain⟨s1,s2,_⟩:=HG (x:=x) (n:=n) (e:=e);exact DC (y:=eg x n) ag rfl rfl s2 s1 fun q=>by rw[HF,q,Bool.true_or]
  have al:(cutAt c.news k).length+1=c.news.length:=by
   grind[aY,cutAt,f',nC,List.length_drop]
  have sY:=o 0;have cy:=o 1;have ci:=o 2;have cI:=o 3;unfold td;change 3*_+(cutAt c.news k).length<_;omega
end Go.Proofs.YthfnndblgbjniaaGreat
namespace Go.Proofs.YthfnndblgbjniaaGreat
open Go.Sx Go.RowKit
structure Fin (e:Int) (c:aO):Prop where
 first:hr e c=false->jA c e=false/\kI c e=false
 reach:hr e c=true->∀(i:Nat) x,0<i->c.aq[i]?=some x->eD x e=true\/∃n∈c.news,n.dest=i/\n.ba=e
 flag:∃b:Bool,(∀x∈c.aq,∀d∈x.b0,d.ba=e->d.cr=b)/\(∀n∈c.news,n.ba=e->n.cr=b)/\(hr e c=true->b=false->∀x∈c.aq,lF e x=false)
variable{c:aO}
theorem Eb{x:aK}(h:cd c 0=some x):c.aq[0]?=some x:=(eR h).2.2
theorem xS{e i:Int}{d:aO}{x y:aK}(h:Fin e c)(pB:Inv e c)(ag:cd c i=some x)(hw:d.aq=c.aq.set i.toNat y)(aW:d.news=c.news)(aE:y.b0=x.b0)(ai:kG x e=true->lF e y=lF e x):Fin e d:=by
 obtain⟨i0,i1,i2⟩:=eR ag;have pu:∀f,eD y f=eD x f:=fun f=>by grind[eD]
 have lj:hr e d=hr e c:=by
  unfold hr cd;grind
 refine⟨fun bI=>?_,fun bI j z bf bb=>?_,?_⟩
 ·rw[lj]at bI;obtain⟨t1,t2⟩:=h.first bI
  grind[kI,jA,fx,iD,cD]
 ·rw[lj]at bI;rw[aW];rw[hw]at bb;rcases yh bb with⟨rfl,rfl⟩ | ⟨_,bb⟩
  ·rw[pu];exact h.reach bI _ x bf i2
  exact h.reach bI j z bf bb
 obtain⟨b,e7,fT,sv⟩:=h.flag;refine⟨b,fun z bb=>?_,by grind,fun bI aw z bb=>?_⟩
 ·grind
 rw[lj]at bI;rw[hw]at bb;rcases iD bb with bb | rfl
 ·grind
 have aH:=(pB.yO (by
  have ao:hr e c=true:=bI;obtain⟨cE,pz⟩:∃cE,cd c 0=some cE:=pY (by decide) (by omega);rw[sb pz]at ao;rw[o5];exact .inl (o7.2 ⟨cE,cD (Eb pz),ao⟩))).1 x (cD i2)
 grind
theorem Fin.step{e:Int}{d:aO}{p:b7}(h:Fin e c)(pB:Inv e c)(he:0<=e/\e<=3)(bY:cx c=true)(st:Step c p d):Fin e d:=by
 cases st with
 | work x r q hk ag ao aH=>
  refine xS h pB ag rfl rfl rfl fun k=>?_
  obtain⟨cA,bm,eK⟩:=n5.1 k;rw[aH]at bm;have gA:=bm r (h2 ..);have aC:=Ps (iB.1 (jU bY ag)).1 (r:=r) (by grind);grind[lF,xM,zY]
 | input x r t hk ag ao aH hi=>exact xS h pB ag rfl rfl rfl fun _=>rfl
 | e9 x r t hk ag ao a8=>exact xS h pB ag rfl rfl rfl fun _=>rfl
 | send x r t l hk ag ao a8 al hsend=>exact xS h pB ag rfl rfl rfl fun _=>rfl
 | take l x hk ec al ag bK=>exact xS h pB ag rfl rfl rfl fun _=>rfl
 | qc l hk ec al ai=>exact⟨h.first,h.reach,h.flag⟩
 | token t x cE hk iU bJ aE bK ag rq=>
  rcases pZ c p.a t x with⟨_,k⟩ | ⟨_,hp,⟨_,k⟩ | ⟨_,_,k⟩ | ⟨ay,qu,aw,k⟩ | ⟨_,_,_,k⟩⟩
  ·grind
  ·rw[k];exact xS h pB ag rfl rfl rfl fun _=>rfl
  ·rw[k];exact xS h pB ag rfl rfl rfl fun _=>rfl
  ·rw[k];have bb:t.place=0:=by have:=(eR ag).1;omega
   rw[bb,bJ]at ag;obtain rfl:cE=x:=gO ag;obtain⟨i0,i1,i2⟩:=eR bJ;simp only[ax,cj]at iU;have lj:hr e (gg (setW (cL c p.a ⟨false,t.place,t.sum,t.bN,t.cr⟩) 0 (told cE p.a (t.cr||cE.bk.getD p.a.toNat false))) (c.news++gv (c.aq.length-1) p.a (t.cr||cE.bk.getD p.a.toNat false)))=(eD cE e||p.a==e):=by
    unfold hr;rw[show cd (gg (setW (cL c p.a ⟨false,t.place,t.sum,t.bN,t.cr⟩) 0 (told cE p.a (t.cr||cE.bk.getD p.a.toNat false))) (c.news++gv (c.aq.length-1) p.a (t.cr||cE.bk.getD p.a.toNat false))) 0=some (told cE p.a (t.cr||cE.bk.getD p.a.toNat false)) from we i2];exact wg
   by_cases B8:p.a=e
   ·subst B8;have adI:hr p.a c=false:=by grind[sb]
    obtain⟨t1,t2⟩:=h.first adI
    obtain⟨_,ff⟩:=pB.over bK ay qu (by grind) hp aw;refine⟨fun bI=>?_,fun _ j z bf jo=>?_,⟨t.cr||lF p.a cE,fun z jo d l5 BX=>?_,fun n lI cZ=>?_,fun _ eE z jo=>?_⟩⟩
    ·grind
    ·right;have jG:=aY jo;rw[show (gg (setW (cL c p.a ⟨false,t.place,t.sum,t.bN,t.cr⟩) 0 (told cE p.a (t.cr||cE.bk.getD p.a.toNat false))) (c.news++gv (c.aq.length-1) p.a (t.cr||cE.bk.getD p.a.toNat false))).aq.length=c.aq.length from ho]at jG;refine⟨⟨((j-1:Nat):Int)+1,p.a,t.cr||cE.bk.getD p.a.toNat false⟩,iN _ (kr.2 ⟨j-1,List.mem_range.2 (by omega),rfl⟩),?_,rfl⟩;grind
    ·rcases iD jo with jo | rfl
     ·exfalso;unfold jA at t1;rw[fx]at t1;exact t1 z jo (o7.2 ⟨d,l5,by grind⟩)
     rcases hM.1 l5 with l5 | l5
     ·exfalso;rw[wW]at aE;exact aE (o7.2 ⟨d,l5,by grind⟩)
     obtain rfl:d=⟨p.a,t.cr||cE.bk.getD p.a.toNat false⟩:=by grind
     rfl
    ·rcases hM.1 lI with lI | lI
     ·grind[kI,fx]
     obtain⟨_,_,rfl⟩:=kr.1 lI;rfl
    rcases iD jo with jo | rfl
    ·exact ff eE z jo
    exact ff eE cE (cD i2)
   have SI:(p.a==e)=false:=by grind
   rw[SI,Bool.or_false]at lj;have Kg:hr e c=eD cE e:=sb bJ;have pu:eD (told cE p.a (t.cr||cE.bk.getD p.a.toNat false)) e=eD cE e:=by rw[wg,SI,Bool.or_false]
   refine⟨fun bI=>?_,fun bI j z bf jo=>?_,?_⟩
   ·rw[lj,<-Kg]at bI;obtain⟨t1,t2⟩:=h.first bI
    refine⟨?_,(YT B8).trans t2⟩;unfold jA at t1 ⊢;rw[fx]at t1 ⊢;intro z jo;rcases iD jo with jo | rfl
    ·exact t1 z jo
    grind
   ·rw[lj,<-Kg]at bI;rcases yh jo with⟨rfl,rfl⟩ | ⟨_,jo⟩
    ·grind
    rcases h.reach bI j z bf jo with bC | ⟨n,bC,b2⟩
    ·exact .inl bC
    exact .inr ⟨n,hJ _ bC,b2⟩
   obtain⟨b,e7,fT,sv⟩:=h.flag;refine⟨b,fun z jo d l5 BX=>?_,fun n lI cZ=>?_,fun bI eE z jo=>?_⟩
   ·rcases iD jo with jo | rfl
    ·exact e7 z jo d l5 BX
    rcases hM.1 l5 with l5 | l5
    ·grind
    grind
   ·rcases hM.1 lI with lI | lI
    ·grind
    obtain⟨_,_,rfl⟩:=kr.1 lI;grind
   rw[lj,<-Kg]at bI;rcases iD jo with jo | rfl
   ·exact sv bI eE z jo
   exact sv bI eE cE (cD i2)
  rw[k];exact⟨h.first,h.reach,h.flag⟩
 | qo k n x hk aW aE ag=>
  obtain⟨i0,i1,i2⟩:=eR ag;have aFZ:n∈c.news:=cD aW;have Sf:∀m∈cutAt c.news k,m∈c.news:=fun m hm=>by
   grind[cutAt,sl,wY]
  have Sg:∀m∈c.news,m∈cutAt c.news k\/m=n:=fun m hm=>by
   obtain⟨j,bf⟩:=List.getElem?_of_mem hm;unfold cutAt;by_cases h1:j<k
   ·exact .inl (hJ _ (cD (i:=j) (by grind)))
   by_cases U:j=k
   ·grind
   refine .inl (iN _ (cD (i:=j-(k+1)) ?_));grind
  have pu:∀f,eD (eg x n) f=(eD x f||n.ba==f):=fun f=>HF
  have lj:hr e (gg (setW c p.a (eg x n)) (cutAt c.news k))=true->hr e c=true:=by
   intro bI;cases ai:hr e c with
   | true=>rfl
   | false=>
    obtain⟨t1,t2⟩:=h.first ai
    exfalso;have aGG:∀m∈c.news,m.ba≠e:=fun m hm aFV=>by
     grind[kI,fx]
    have aGJ:∀z∈c.aq,eD z e=false:=fun z bb=>by
     grind[jA,fx]
    obtain⟨cE,pz⟩:∃cE,cd (gg (setW c p.a (eg x n)) (cutAt c.news k)) 0=some cE:=pY (by decide) (by grind[gg,setW,eg,cutAt,ho]);rw[sb pz]at bI;have hm:=cD (Eb pz);rcases iD hm with hm | rfl
    ·grind
    grind
  have aFv:hr e c=true->hr e (gg (setW c p.a (eg x n)) (cutAt c.news k))=true:=by
   intro ai;obtain⟨cE,pz⟩:∃cE,cd c 0=some cE:=pY (by decide) (by omega);rw[sb pz]at ai;by_cases hi:p.a.toNat=0
   ·have S3:x=cE:=by
     grind
    subst S3;rw[sb (x:=eg x n) (show cd (gg (setW c p.a (eg x n)) (cutAt c.news k)) 0=some (eg x n) by
     unfold cd;rw[bq (by decide)];change (c.aq.set p.a.toNat (eg x n))[0]?=_;grind),pu,ai,Bool.true_or]
   rw[sb (x:=cE) (show cd (gg (setW c p.a (eg x n)) (cutAt c.news k)) 0=some cE by
    unfold cd;rw[bq (by decide)];exact YR (Eb pz) (fun q=>hi q.symm))]
   exact ai
  refine⟨fun bI=>?_,fun bI j z bf bb=>?_,?_⟩
  ·have ai:hr e c=false:=by
    grind
   obtain⟨t1,t2⟩:=h.first ai
   unfold jA at t1 ⊢;unfold kI at t2 ⊢;rw[fx]at t1 t2 ⊢;refine⟨fun z bb=>?_,?_⟩
   ·rcases iD bb with bb | rfl
    ·exact t1 z bb
    grind
   rw[fx];exact fun m hm=>t2 m (Sf m hm)
  ·have ai:=lj bI;rcases yh bb with⟨rfl,rfl⟩ | ⟨cZ,bb⟩
   ·rw[pu];rcases h.reach ai _ x bf i2 with bC | ⟨m,bC,b2,cg⟩
    ·grind
    rcases Sg m bC with bC | rfl
    ·exact .inr ⟨m,bC,b2,cg⟩
    grind
   rcases h.reach ai j z bf bb with bC | ⟨m,bC,b2,cg⟩
   ·exact .inl bC
   rcases Sg m bC with bC | rfl
   ·exact .inr ⟨m,bC,b2,cg⟩
   grind
  obtain⟨b,e7,fT,sv⟩:=h.flag;refine⟨b,fun z bb d l5 BX=>?_,fun m hm=>fT m (Sf m hm),fun bI aw z bb=>?_⟩
  ·rcases iD bb with bb | rfl
   ·grind
   unfold eg at l5;split at l5
   ·grind
   rcases hM.1 l5 with l5 | l5
   ·grind
   grind
  rcases iD bb with bb | rfl
  ·grind
  rw[(HG (x:=x) (n:=n) (e:=e)).2.2];grind
end Go.Proofs.YthfnndblgbjniaaGreat
namespace Go.Proofs.YthfnndblgbjniaaGreat
open Go.Sx Go.RowKit
def cp(e:Int)(c:aO):Nat:=if hr e c=true then 0 else 1
def sq(c:aO):Prop:=c.news.length+2*(cp 0 c+cp 1 c+cp 2 c+cp 3 c)<=8
variable{c d:aO}{i e:Int}{x:aK}
theorem azk{y:aK}(ag:cd c i=some x)(hw:d.aq=c.aq.set i.toNat y)(h:eD x e=true->eD y e=true):hr e c=true->hr e d=true:=by
 intro ai;obtain⟨_,_,lU⟩:=eR ag;unfold hr cd at ai ⊢;grind
theorem DE{d:aO}{y:aK}(ag:cd c i=some x)(hw:d.aq=c.aq.set i.toNat y)(h:eD x e=true->eD y e=true):cp e d<=cp e c:=by
 unfold cp;by_cases ai:hr e c=true
 ·rw[bq ai,bq (azk ag hw h ai)];grind
 grind
theorem wj{y:aK}(h:sq c)(ag:cd c i=some x)(hw:d.aq=c.aq.set i.toNat y)(aE:∀e,eD x e=true->eD y e=true)(aW:d.news.length<=c.news.length):sq d:=by
 have fo:=DE (d:=d) ag hw (aE 0);have gD:=DE (d:=d) ag hw (aE 1);have ko:=DE (d:=d) ag hw (aE 2);have u6:=DE (d:=d) ag hw (aE 3);grind[sq]
theorem sq.step{p:b7}(h:sq c)(al:c.aq.length<=3)(st:Step c p d):sq d:=by
 cases st with
 | work x r q hk ag ao aH=>exact wj h ag rfl (fun _ k=>k) (fi _)
 | input x r t hk ag ao aH hi=>exact wj h ag rfl (fun _ k=>k) (fi _)
 | e9 x r t hk ag ao a8=>exact wj h ag rfl (fun _ k=>k) (fi _)
 | send x r t l hk ag ao a8 mZ hsend=>exact wj h ag rfl (fun _ k=>k) (fi _)
 | take l x hk ec mZ ag bK=>exact wj h ag rfl (fun _ k=>k) (fi _)
 | qc l hk ec mZ ai=>exact h
 | token t x cE hk iU bJ aE bK ag rq=>
  rcases pZ c p.a t x with⟨_,k⟩ | ⟨_,_,⟨_,k⟩ | ⟨_,_,k⟩ | ⟨_,qu,_,k⟩ | ⟨_,_,_,k⟩⟩
  ·grind
  ·rw[k];exact wj h ag rfl (fun _ k=>k) (fi _)
  ·rw[k];exact wj h ag rfl (fun _ k=>k) (fi _)
  ·rw[k];have bb:t.place=0:=by have:=(eR ag).1;omega
   rw[bb,bJ]at ag;obtain rfl:cE=x:=gO ag;simp only[ax,cj]at iU;generalize Fp:gg (setW (cL c p.a ⟨false,t.place,t.sum,t.bN,t.cr⟩) 0 (told cE p.a (t.cr||cE.bk.getD p.a.toNat false))) (c.news++gv (c.aq.length-1) p.a (t.cr||cE.bk.getD p.a.toNat false))=D;have hw:D.aq=c.aq.set (0:Int).toNat (told cE p.a (t.cr||cE.bk.getD p.a.toNat false)):=by rw[<-Fp];rfl
   have vD:D.news.length<=c.news.length+2:=by
    grind[gg,f',gv,b',w3]
   have mono:∀e,cp e D<=cp e c:=fun e=>DE bJ hw fun k=>by rw[wg,k,Bool.true_or]
   have own:cp p.a D=0/\cp p.a c=1:=by
    have aFa:cd D 0=some (told cE p.a (t.cr||cE.bk.getD p.a.toNat false)):=by
     simp_all[cd,bq,decide,we,eR]
    simp_all[cp,sb,wg]
   grind[sq,own]
  rw[k];exact h
 | qo k n x hk aW aE ag=>
  refine wj (y:=eg x n) h ag rfl (fun e q=>by rw[HF,q,Bool.true_or]) ?_;exact XZ _ _
structure Live (P:kM) (S:Int) (c:aO):Prop where
 run:q6 P S c
 fin:∀e:Int,0<=e/\e<=3->Fin e c
 news:sq c
 small:c.aq.length<=3
variable{P:kM}{S:Int}
theorem Live.step(h:Live P S c)(fF:S<200000)(p:b7):Live P (S+1) (cX c p).1:=by
 have h1:=h.run.step fF p;have al:=(OE c p).qX;rcases v8 c p with⟨_,U⟩ | ⟨_,_,st⟩
 ·rw[U]at h1 ⊢;exact⟨h1,h.fin,h.news,h.small⟩
 exact⟨h1,fun e he=>(h.fin e he).step (h.run.all.inv e he) he h.run.all.ok st,h.news.step h.small st,by rw[al];exact h.small⟩
theorem Live.runs:∀(l:List b7) {S:Int} {c:aO},Live P S c->S+l.length<=200000->Live P (S+l.length) (dg c l).1
 | [],S,c,h,_=>by grind[dg]
 | p::l,S,c,h,fF=>by
  simp only[gT]at fF ⊢;have:=Live.runs l (h.step (by omega) p) (by omega);simp only[dg];rw[show S+((l.length+1:Nat):Int)=S+1+l.length by omega];exact this
theorem Live.mono{T:Int}(h:Live P S c)(hQ:S<=T):Live P T c:=⟨⟨h.run.all.mono hQ,h.run.of⟩,h.fin,h.news,h.small⟩
variable{g:bX}{xs:List az}
theorem Live.new(ay:la g)(ag:∀r∈xs,Input r)(al:xs.length<=5):∃P:kM,P.xs=xs/\Live P 0 (eL g xs):=by
 have aW:=GR ay (by omega) ag;obtain⟨⟨k,a,b,c,v,hk,ah,aw,_,bF,lI⟩,hw,_⟩:=ay;have S1:∀x∈(eL g xs).aq,∃w:Nat,x=lu (own g xs w):=fun x ag=>by
  obtain⟨i,hi⟩:=List.getElem?_of_mem ag;exact⟨i,(HL hi).1⟩
 have hlen:(eL g xs).aq.length=g.aq.toNat:=z1 g xs _;have lj:∀e,hr e (eL g xs)=false:=fun e=>by
  obtain⟨cE,pz⟩:∃cE,cd (eL g xs) 0=some cE:=pY (by decide) (by grind);rw[sb pz];obtain⟨w,rfl⟩:=S1 cE (cD (Eb pz));rfl
 refine⟨⟨k,a,b,c,v,xs⟩,rfl,⟨iP.new aW,hk,ah,aw,bF,lI,ag,⟨fun x py r aC=>?_,fun l al r aC=>?_,fun x py r aC=>?_⟩⟩,fun e he=>⟨fun _=>⟨?_,rfl⟩,fun bI=>?_,⟨false,fun x py d aE=>?_,fun n aW=>?_,fun bI=>?_⟩⟩,?_,by grind⟩
 ·grind[lu]
 ·rw[List.eq_of_mem_replicate al]at aC;grind[k7]
 ·obtain⟨w,rfl⟩:=S1 x py;exact (HK aC).1
 ·grind[jA,fx,eD,lu]
 ·grind
 ·grind[lu]
 ·grind[eL]
 ·grind
 grind[sq,cp,eL]
theorem HT{e:Int}(h:iP S c)(al:c.aq.length<=3):jy e c<=11:=by
 unfold jy;split
 ·omega
 cases bK:hZ c e with
 | none=>grind
 | some t=>
  obtain⟨⟨h1,U⟩,_⟩:=s7.1 (Am h.ok bK);have ui:=(fp.1 h.ok).2.1;grind[qV]
theorem azl(h:Live P S c):td c<=140:=by
 have t0:=HT (e:=0) h.run.all h.small;have t1:=HT (e:=1) h.run.all h.small;have t2:=HT (e:=2) h.run.all h.small;have t3:=HT (e:=3) h.run.all h.small;have aW:=h.news;grind[sq,td]
theorem Z0(b:Bool)(l:List Bool):nO (b::l)=(if b=true then 1 else 0)+nO l:=by
 grind[nO]
theorem HU:∀(l:List b7) {S:Int} {c:aO},Live P S c->S+l.length<=200000->Still c->Still (dg c l).1/\td (dg c l).1+nO (dg c l).2<=td c
 | [],S,c,_,_,ao=>⟨ao,fi _⟩
 | p::l,S,c,h,fF,ao=>by
  simp only[gT]at fF;simp only[dg,Z0];rcases v8 c p with⟨cA,bm⟩ | ⟨_,cA,st⟩
  ·rw[bm,cA,bD (by decide),dX];exact HU l (h.mono (T:=S+1) (by omega)) (by omega) ao
  obtain⟨s1,s2⟩:=azj h.run.all ao h.small st;obtain⟨i1,i2⟩:=HU l (h.step (by omega) p) (by omega) s1;grind
theorem Z1:∀(l:List b7) (c:aO),nO (dg c l).2=0->(dg c l).1=c/\∀p∈l,(cX c p).2=false
 | [],c,_=>⟨rfl,fun p hp=>by cases hp⟩
 | p::l,c,h=>by
  simp only[dg,Z0]at h ⊢;cases aw:(cX c p).2 with
  | true=>grind
  | false=>
   rw[asK aw]at h ⊢;obtain⟨h1,U⟩:=Z1 l c (by omega);refine⟨h1,fun q aH=>?_⟩;rcases ev.1 aH with rfl | aH
   ·exact aw
   exact U q aH
theorem Z2{P:kM}:∀(m:Nat) {S:Int} {c:aO} (k M:Nat),Live P S c->S+44*m<=200000->M<m->((Still c/\td c<=M)\/fW P c+141<=M)->
  ∃(d:aO) (j:Nat) (T:Int),gK m c k=(d,k+j)/\j<=M+1/\Live P T d/\T<=200000/\d.au=c.au/\∀p∈fB d,(cX d p).2=false
 | 0,S,c,k,M,_,_,adh,_=>by omega
 | m+1,S,c,k,M,h,fF,adh,ai=>by
  obtain⟨_,Fx⟩:=PL (iz (fp.1 h.run.all.ok).1);unfold gK;by_cases bJ:(jf c).2=0
  ·rw[bq bJ];obtain⟨ib,iI⟩:=Z1 (fB c) c bJ;exact⟨c,1,S,by grind[jf],by omega,h,by omega,rfl,iI⟩
  rw[bD bJ];have al:Live P (S+44) (jf c).1:=(h.runs (fB c) (by omega)).mono (by omega);have zo:=(Ik c).au;have next:(Still (jf c).1/\td (jf c).1<=M-1)\/fW P (jf c).1+141<=M-1:=by
   by_cases ao:Still c
   ·obtain⟨s1,s2⟩:=HU (fB c) h (by omega) ao;grind[nO,dg,fB,Nat.pos_of_ne_zero,jf,azl]
   rcases ai with⟨ai,_⟩ | ai
   ·grind
   have bR:=azf h.run (by omega) ao;grind
  have aFi:1<=M:=by
   rcases ai with⟨ao,ai⟩ | ai
   ·obtain⟨_,s2⟩:=HU (fB c) h (by omega) ao;have aE:0<nO (dg c (fB c)).2:=Nat.pos_of_ne_zero bJ;omega
   omega
  obtain⟨d,j,T,e1,e2,ch,dS,hz,lg⟩:=Z2 m (k+1) (M-1) al (by omega) (by omega) next;exact⟨d,j+1,T,by grind,by omega,ch,dS,hz.trans zo,lg⟩
structure Jr (c:aO):Prop where
 still:Still c
 done:∀e:Int,0<=e/\e<=3->∀x∈c.aq,eD x e=true
 news:c.news=[]
theorem azm(he:0<=e/\e<=3):(⟨6,e,0⟩:b7)∈fB c:=by
 have Fz:e=0\/e=1\/e=2\/e=3:=by omega
 unfold fB;refine iN _ ?_;rcases Fz with rfl | rfl | rfl | rfl<;>decide
theorem Live.ended{T:Int}(h:Live P T c)(hQ:T<=200000)(jH:∀p∈fB c,(cX c p).2=false):Jr c:=by
 have bY:=h.run.all.ok;obtain⟨ay,ui,_⟩:=fp.1 bY;have aW:=iz ay;have ao:Still c:=PK bY fun p hp _=>⟨c,T,bY,h.run.all.sx,hQ,.rfl,jH p hp⟩
 have ka:c.news=[]:=by
  cases lI:c.news with
  | nil=>rfl
  | cons n ns=>
   exfalso;have aw:=OA bY (k:=0) (n:=n) (by rw[lI];rfl);simp only[lQ,ax,fC,jC,cj]at aw;obtain⟨w,hw⟩:∃w:Nat,n.dest=w:=⟨n.dest.toNat,by omega⟩
   obtain⟨x,ag⟩:∃x,cd c (w:Int)=some x:=pY (by omega) (by omega);have hp:=jH ⟨7,w,0⟩ (by
    unfold fB;rw[PJ aW];exact hJ _ (hJ _ (ZU (w:=w) (by omega) (by simp[jQ]))))
   have bI:c.news.findIdx? (fun m=>m.dest==(w:Int))=some 0:=by
    grind
   have b1:cX c ⟨7,(w:Int),0⟩=jT c w:=rfl;simp_all[jT,bq]
 refine⟨ao,fun e he x ag=>?_,ka⟩;obtain⟨cE,pz⟩:∃cE,cd c 0=some cE:=pY (by decide) (by omega);obtain⟨t,bK⟩:=Yu bY (e:=e) (by simp_all[ax,cj]);obtain⟨⟨ic,sZ⟩,_⟩:=s7.1 (Am bY bK);obtain⟨y,bu⟩:∃y,cd c t.place=some y:=pY ic (by omega);have lj:eD cE e=true:=by
  refine Classical.byContradiction fun aE=>?_
  have aE:eD cE e=false:=by grind
  have hp:=jH ⟨6,e,0⟩ (azm he);have bw:cX c ⟨6,e,0⟩=dF c e t y:=by
   change iA c e=_;unfold iA;rw[bq (by simp_all[ax,lB,cj]),pz,bK];grind
  rw[bw]at hp;have aeB:=(ao.quiet e).1 y (cD (eR bu).2.2);unfold dF at hp;rw[bq aeB]at hp;cases ay:t.going with
  | false=>grind
  | true=>
   rw[ay,bD (by decide)]at hp;split at hp
   ·split at hp
    ·cases hp
    rename_i ad3;refine ad3 ?_;have e7:=h.run.all.sx.wT t (cD (x8 bK).2.2) ay;have fT:=h.run.all.sx.at bu e.toNat;simp only[ax,cj];omega
   grind
 obtain⟨i,hi⟩:=List.getElem?_of_mem ag;by_cases lH:i=0
 ·grind[Eb]
 rcases (h.fin e he).reach (by grind[sb]) i x (by omega) hi with r | ⟨n,r,_⟩
 ·exact r
 grind
theorem azn(ay:la g)(ag:∀r∈xs,Input r)(al:xs.length<=5)(tV:P.xs=xs)(ai:Live P S c)(fF:S<=60000)(aF1:fW P c<=xs.length*554):
  ∃(d:aO) (j:Nat) (T:Int),lr c 3000=(d,j)/\j<3000/\Live P T d/\T<=200000/\d.au=c.au/\Jr d/\∀p∈fB d,(cX d p).2=false:=by
 have aw:(gd 3000 0 3000).toNat=3000:=by decide
 obtain⟨d,j,T,e1,e2,ch,dS,hz,lg⟩:=Z2 (P:=P) 3000 (c:=c) 0 2911 ai (by omega) (by omega) (.inr (by omega));refine⟨d,j,T,?_,by omega,ch,dS,hz,ch.ended dS lg,lg⟩;simp_all[lr,dX]
theorem PM:∀(l:List b7) {S:Int} {c:aO},q6 P S c->S+l.length<=200000->fW P (dg c l).1<=fW P c
 | [],_,c,_,_=>fi _
 | p::l,S,c,h,fF=>by
  simp only[gT]at fF;have eA:=PM l (h.step (by omega) p) (by omega);simp only[dg];rcases v8 c p with⟨_,bm⟩ | ⟨_,_,st⟩
  ·rw[bm]at eA ⊢;exact eA
  have:=aan h.of h.all.owns h.all.ok st;omega
structure Grown (g:bX) (xs:List az) (c:aO):Prop where
 drawn:la g
 input:∀r∈xs,Input r
 few:xs.length<=5
 live:∃(P:kM) (S:Int),P.xs=xs/\Live P S c/\S<=60000/\fW P c<=xs.length*554
 au:c.au=g
theorem Grown.new(ay:la g)(ag:∀r∈xs,Input r)(al:xs.length<=5):Grown g xs (eL g xs):=by
 obtain⟨P,tV,h⟩:=Live.new ay ag al;subst tV;exact⟨ay,ag,al,⟨P,0,rfl,h,by omega,aap (GR ay (by omega) ag) ag⟩,rfl⟩
