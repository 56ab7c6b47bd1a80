import Derived.Test.YthfnndblgbjniaaGreatP42
import Derived.Test.YthfnndblgbjniaaGreatP43
import Derived.Test.YthfnndblgbjniaaGreatGY
set_option linter.unusedVariables false
set_option linter.unusedSimpArgs false
namespace Go.Proofs.YthfnndblgbjniaaGreat
open Go.Sx Go.RowKit Go.Proofs.Tryz
def fh(e:Int)(x:aK):Int:=x.bB.getD e.toNat 0
def gF(e:Int)(x:aK):Bool:=x.bN.getD e.toNat false
def lF(e:Int)(x:aK):Bool:=x.bk.getD e.toNat false
def gR(e:Int)(c:aO)(k:Nat):Int:=((c.aq.take k).map (fh e)).sum
def iW(e:Int)(c:aO):Nat:=da (iy e) c.bn
def quiet(e:Int)(c:aO):Prop:=(∀x∈c.aq,kG x e=true)/\iW e c=0
def Good(e:Int)(c:aO)(t:bQ):Prop:=
 ((∀(i:Nat) x,t.place<i->c.aq[i]?=some x->kG x e=true/\(lF e x=true->t.cr=true))/\gR e c (t.place+1).toNat+t.sum=iW e c)\/
 0<gR e c (t.place+1).toNat+t.sum\/(∃(i:Nat) (x:aK),(i:Int)<=t.place/\c.aq[i]?=some x/\gF e x=true)\/t.bN=true
structure Inv (e:Int) (c:aO):Prop where
 total:gR e c c.aq.length=iW e c
 token:∀t,hZ c e=some t->t.going=true->Good e c t
 yO:(jA c e||kI c e)=true->quiet e c
theorem zX{α:Type}(f:α->Int){y:α}(x:α):∀{xs:List α} {i k:Nat},xs[i]?=some y->(((xs.set i x).take k).map f).sum=((xs.take k).map f).sum+(if i<k then f x-f y else 0)
 | [],_,_,h=>by simp at h
 | a::xs,0,0,h=>by simp
 | a::xs,0,k+1,h=>by
  grind
 | a::xs,i+1,0,h=>by simp
 | a::xs,i+1,k+1,h=>by
  have eA:=zX f x (xs:=xs) (i:=i) (k:=k) (by simpa using h);grind
variable{i j:Nat}
theorem yh{α:Type}{xs:List α}{y z:α}(h:(xs.set i y)[j]?=some z):(j=i/\z=y)\/(j≠i/\xs[j]?=some z):=by
 grind
theorem we{α:Type}{xs:List α}{x y:α}(h:xs[i]?=some x):(xs.set i y)[i]?=some y:=by
 grind
theorem YR{α:Type}{xs:List α}{y z:α}(h:xs[j]?=some z)(bf:j≠i):(xs.set i y)[j]?=some z:=by
 grind
theorem Dw{α:Type}{xs:List α}{x:α}(h:xs[i]?=some x):xs.set i x=xs:=by
 grind[aY,gO,List.set_getElem_self]
variable{e:Int}{c:aO}{x:aK}
theorem Inv.worker{i:Int}{d:aO}{y:aK}(h:Inv e c)(ag:cd c i=some x)(hw:d.aq=c.aq.set i.toNat y)(bK:hZ d e=hZ c e)
  (ae0:(jA d e||kI d e)=true->(jA c e||kI c e)=true)
  (ai:(fh e y=fh e x/\(gF e x=true->gF e y=true)/\iW e d=iW e c/\(kG x e=true->kG y e=true/\lF e y=lF e x))\/
   (kG x e=false/\fh e y=fh e x+1/\(gF e x=true->gF e y=true)/\iW e d=iW e c+1)\/
   (iW e c=iW e d+1/\fh e y=fh e x-1/\gF e y=true)):Inv e d:=by
 obtain⟨i0,i1,i2⟩:=eR ag;have hlen:d.aq.length=c.aq.length:=by grind
 have zw:∀k,gR e d k=gR e c k+(if i.toNat<k then fh e y-fh e x else 0):=fun k=>by
  grind[gR,zX,fh]
 have sK:x∈c.aq:=cD i2;refine⟨?_,fun t hQ ay=>?_,fun hQ=>?_⟩
 ·rw[zw,hlen,bq i1,h.total];grind
 ·have hA:=h.token t (bK▸hQ) ay;unfold Good at hA ⊢;rw[zw];have aFj:(gF e x=true->gF e y=true)->(∃(j:Nat) (z:aK),(j:Int)<=t.place/\c.aq[j]?=some z/\gF e z=true)->∃(j:Nat) (z:aK),(j:Int)<=t.place/\d.aq[j]?=some z/\gF e z=true:=by
   rintro aw ⟨j,z,g1,g2,g3⟩;by_cases bf:j=i.toNat
   ·grind[we]
   exact⟨j,z,g1,by grind,g3⟩
  rcases ai with⟨h1,U,aA,aJ⟩ | ⟨h1,U,aA,aJ⟩ | ⟨h1,U,aA⟩
  ·rcases hA with⟨fe,Fo⟩ | g | g | g
   ·refine .inl ⟨fun j z bf bb=>?_,?_⟩
    ·grind[yh]
    grind
   ·grind
   ·grind
   grind
  ·rcases hA with⟨fe,Fo⟩ | g | g | g
   ·have hle:¬t.place<i.toNat:=fun bR=>by
     grind
    omega
   ·grind
   ·grind
   grind
  by_cases hle:(i.toNat:Int)<=t.place
  ·grind[we]
  rw[bD (by omega)];rcases hA with⟨_,Fo⟩ | g | ⟨j,z,g1,g2,g3⟩ | g
  ·grind
  ·grind
  ·exact .inr (.inr (.inl ⟨j,z,g1,by grind,g3⟩))
  grind
 obtain⟨q1,ie⟩:=h.yO (ae0 hQ);have hp:=q1 x sK;rcases ai with⟨_,_,aA,aJ⟩ | ⟨h1,_⟩ | ⟨h1,_⟩
 ·refine⟨fun z bb=>?_,by omega⟩;grind
 ·grind
 omega
theorem n5:kG x e=true<->(∀r∈x.bM,e<r.bl.ba)/\(∀r∈x.queue,r.bl.ba≠e)/\∀r∈x.b9,r.bl.ba≠e:=by
 simp only[kG,x7,WW,hF,cu,gp,fx,cj,kq];simp_all
theorem ayz(g:bX)(cs:List Cell)(r:az):∀q∈(du g cs r).2.1,q.bl.ba=r.bl.ba:=by
 grind[du,dV,gQ,fu,fg]
theorem xM{α:Type}{xs:List α}{a d:α}(h:i≠j):(xs.set i a).getD j d=xs.getD j d:=by
 grind
theorem HE{α:Type}{xs:List α}{a d:α}(h:i<xs.length):(xs.set i a).getD i d=a:=by
 grind
theorem Pr{i e:Int}{l m:bj}(h:eF c i=some l):iW e (dd c i m)+iy e l=iW e c+iy e m:=by
 unfold iW;exact H7 m (iK h).2.2
theorem ayA(e cap:Int)(q:List az)(r:az)(a b s g:Int)(l:bj)(al:l.queue=q):iy e ⟨cap,q++[r],a,b,s,g⟩=iy e l+(if r.bl.ba=e then 1 else 0):=by
 simp only[iy,hF,List.filter_append,f',al,List.filter_cons,List.filter_nil,kq];split<;>rfl
theorem ayB(e:Int)(r:az)(q:List az)(l:bj)(al:l.queue=r::q)(cap a b s g:Int):iy e l=iy e ⟨cap,q,a,b,s,g⟩+(if r.bl.ba=e then 1 else 0):=by
 simp only[iy,hF,al,List.filter_cons,kq];grind
theorem sa{c d:aO}{i:Int}{y:aK}(ag:cd c i=some x)(aE:d.aq=c.aq.set i.toNat y)(h:eD y e=true->eD x e=true\/kI c e=true)(aW:kI d e=true->kI c e=true):
  (jA d e||kI d e)=true->(jA c e||kI c e)=true:=by
 simp only[o5];rintro (hw | hw)
 ·unfold jA at hw ⊢;rw[aE,o7]at hw;obtain⟨z,bb,l5⟩:=hw;rcases iD bb with bb | rfl
  ·grind
  rcases h l5 with h1 | h1
  ·exact .inl (o7.2 ⟨x,cD (eR ag).2.2,h1⟩)
  grind
 grind
theorem zY{a b:Int}(ah:0<=a)(aw:0<=b)(h:a≠b):a.toNat≠b.toNat:=by omega
variable{f:Int}
theorem YS{d:Int}(he:0<=e/\e<=3)(bI:0<=f/\f<=3){xs:List Int}(al:xs.length=4):(l7 xs f d).getD e.toNat 0=xs.getD e.toNat 0+(if f=e then d else 0):=by
 unfold l7;grind
theorem Dx{g:bX}{w:aK}(h:fb g w=true):w.bB.length=4/\w.bN.length=4/\w.bk.length=4:=by
 obtain⟨_,_,_,_,a7,bw,b1,_⟩:=iB.1 h;grind
theorem Ps{g:bX}{xs:List az}(h:gJ g xs=true){r:az}(aC:r∈xs):0<=r.bl.ba/\r.bl.ba<=3:=by
 simp only[gJ,gp,fx]at h;exact r7 (g:=g) (by grind)
theorem wg{b:Bool}:eD (told x f b) e=(eD x e||f==e):=by
 simp[eD,told]
theorem HF{n:bT}:eD (eg x n) e=(eD x e||n.ba==e):=by
 unfold eg;split
 ·grind
 exact wg
theorem ayC{n:bT}:kG (eg x n) e=kG x e:=by
 unfold eg;split<;>rfl
theorem HG{x:aK}{n:bT}{e:Int}:fh e (eg x n)=fh e x/\gF e (eg x n)=gF e x/\lF e (eg x n)=lF e x:=by
 unfold eg;split<;>exact⟨rfl,rfl,rfl⟩
theorem HH{k:Nat}(h:c.aq[k]?=some x):gR e c (k+1)=gR e c k+fh e x:=by
 simp[gR,o4,h]
variable{t:bQ}
theorem wh(he:0<=e)(bI:0<=f)(h:f≠e):(if 0<=e then (c.tokens.set f.toNat t)[e.toNat]? else none)=hZ c e:=by
 simp_all[hZ,bD,zY]
theorem YT{n:Nat}{b:Bool}(h:f≠e):((c.news++gv n f b).any fun x=>x.ba==e)=kI c e:=by
 rw[List.any_append];have:((gv n f b).any fun x=>x.ba==e)=false:=by
  grind[fx,gv]
 rw[this,Bool.or_false];rfl
theorem Inv.aD2(h:Inv e c)(he:0<=e)(bI:0<=f)(cZ:f≠e)(ag:cd c t.place=some x):Inv e (dF c f t x).1:=by
 have Ec:gF e (eB x f)=gF e x:=by
  grind[gF,eB,xM,zY]
 rcases pZ c f t x with⟨_,U⟩ | ⟨_,_,h1⟩
 ·grind
 rcases h1 with⟨_,U⟩ | ⟨_,_,U⟩ | ⟨_,bJ,_,U⟩ | ⟨_,_,_,U⟩
 ·rw[U];exact h.worker ag rfl (wh he bI cZ) (sa ag rfl (fun k=>.inl k) id) (.inl ⟨rfl,fun k=>Ec.trans k,rfl,fun k=>⟨k,rfl⟩⟩)
 ·rw[U];exact h.worker ag rfl (wh he bI cZ) (sa ag rfl (fun k=>.inl k) id) (.inl ⟨rfl,fun k=>Ec.trans k,rfl,fun k=>⟨k,rfl⟩⟩)
 ·rw[U];have bb:t.place=0:=by have:=(eR ag).1;omega
  rw[bb]at ag;refine h.worker ag rfl (wh he bI cZ) (sa ag rfl (fun k=>?_) (fun k=>(YT cZ).symm.trans k)) (.inl ⟨rfl,id,rfl,fun k=>⟨k,rfl⟩⟩);simp_all[wg,false,Bool.or_false]
 rw[U];exact h.worker (y:=x) ag (Dw (eR ag).2.2).symm (wh he bI cZ) (sa ag (Dw (eR ag).2.2).symm (fun k=>.inl k) id) (.inl ⟨rfl,id,rfl,fun k=>⟨k,rfl⟩⟩)
theorem ayD{n:Int}(h:0<=n):(n+1).toNat=n.toNat+1:=by omega
theorem ayE{n:Int}:(n-1+1).toNat=n.toNat:=by grind
theorem Pt{u:bQ}(h:hZ c e=some t):(if 0<=e then (c.tokens.set e.toNat u)[e.toNat]? else none)=some u:=by
 obtain⟨bJ,_,U⟩:=x8 h;grind
theorem Inv.over(h:Inv e c)(bK:hZ c e=some t)(ay:t.going=true)(bJ:¬0<t.place)(ag:cd c t.place=some x)(hp:kG x e=true)
  (aw:t.bN=false/\x.bN.getD e.toNat false=false/\t.sum+x.bB.getD e.toNat 0=0):quiet e c/\((t.cr||lF e x)=false->∀z∈c.aq,lF e z=false):=by
 have bb:t.place=0:=by have:=(eR ag).1;omega
 obtain⟨_,_,gN⟩:=eR ag;rw[bb]at gN;have ao:gR e c 1=fh e x:=by rw[HH (k:=0) gN];simp[gR]
 have hA:=h.token t bK ay;unfold Good at hA;rw[bb]at hA;change ((_/\gR e c 1+t.sum=_)\/0<gR e c 1+t.sum\/_) at hA;rw[ao]at hA;have BO:t.sum+fh e x=0:=aw.2.2;rcases hA with⟨fe,Fo⟩ | g | ⟨i,z,g1,g2,g3⟩ | g
 ·have key:∀z∈c.aq,kG z e=true/\(lF e z=true->(t.cr||lF e x)=true):=by
   intro z bb;obtain⟨i,hi⟩:=List.getElem?_of_mem bb;grind
  refine⟨⟨fun z bb=>(key z bb).1,by omega⟩,fun ff z bb=>?_⟩;grind
 ·omega
 ·simp_all[some,gF,false]
 grind
theorem Inv.aD3(h:Inv e c)(bY:cx c=true)(bK:hZ c e=some t)(ag:cd c t.place=some x):Inv e (dF c e t x).1:=by
 obtain⟨i0,i1,i2⟩:=eR ag;obtain⟨_,_,FL,_⟩:=s7.1 (Am bY bK);rcases pZ c e t x with⟨_,U⟩ | ⟨_,hp,h1⟩
 ·grind
 have whole:∀u:bQ,(u.going=true->Good e (setW (cL c e u) t.place (eB x e)) u)->Inv e (setW (cL c e u) t.place (eB x e)):=by
  intro u hu;have zw:∀k,gR e (setW (cL c e u) t.place (eB x e)) k=gR e c k:=fun k=>by
   have:=zX (fh e) (eB x e) (k:=k) i2;rw[show fh e (eB x e)=fh e x from rfl,Int.sub_self,ite_self,Int.add_zero]at this;exact this
  refine⟨?_,fun dx hQ ay=>?_,fun hQ=>?_⟩
  ·rw[zw,show (setW (cL c e u) t.place (eB x e)).aq.length=c.aq.length from ho];exact h.total
  ·rw[show hZ (setW (cL c e u) t.place (eB x e)) e=some u from Pt bK]at hQ;grind
  obtain⟨q1,ie⟩:=h.yO (sa (c:=c) (d:=setW (cL c e u) t.place (eB x e)) ag rfl (fun k=>.inl k) id hQ);refine⟨fun z bb=>?_,ie⟩;rcases iD bb with bb | rfl
  ·exact q1 z bb
  exact hp
 have F5:∀(u:bQ) k,gR e (setW (cL c e u) t.place (eB x e)) k=gR e c k:=fun u k=>by
  have:=zX (fh e) (eB x e) (k:=k) i2;rw[show fh e (eB x e)=fh e x from rfl,Int.sub_self,ite_self,Int.add_zero]at this;exact this
 rcases h1 with⟨ay,U⟩ | ⟨ay,bJ,U⟩ | ⟨ay,bJ,aw,U⟩ | ⟨ay,bJ,aw,U⟩
 ·rw[U];refine whole _ fun _=>.inl ⟨fun j z bf bb=>?_,?_⟩
  ·have:=aY bb;rw[show (setW (cL c e _) t.place (eB x e)).aq.length=c.aq.length from ho]at this;grind
  rw[F5];change gR e c ((c.aq.length:Int)-1+1).toNat+0=iW e c;rw[show ((c.aq.length:Int)-1+1).toNat=c.aq.length by omega,Int.add_zero];exact h.total
 ·rw[U];have hA:=h.token t bK ay;refine whole _ fun _=>?_
  unfold Good at hA ⊢;rw[F5];change ((∀(i:Nat) z,t.place-1<i->_->_)/\gR e c (t.place-1+1).toNat+(t.sum+fh e x)=iW e c)\/0<gR e c (t.place-1+1).toNat+(t.sum+fh e x)\/(∃(i:Nat) (z:aK),(i:Int)<=t.place-1/\_)\/(t.bN||gF e x)=true;rw[ayD i0,HH i2]at hA;rw[ayE];rcases hA with⟨fe,Fo⟩ | g | ⟨i,z,g1,g2,g3⟩ | g
  ·refine .inl ⟨fun j z bf bb=>?_,by omega⟩;change (c.aq.set t.place.toNat (eB x e))[j]?=some z at bb;rcases yh bb with⟨rfl,rfl⟩ | ⟨cZ,bb⟩
   ·exact⟨hp,fun k=>by change (t.cr||lF e x)=true;rw[show lF e x=true from k,Bool.or_true]⟩
   grind
  ·grind
  ·by_cases hi:i=t.place.toNat
   ·grind
   exact .inr (.inr (.inl ⟨i,z,by omega,YR g2 hi,g3⟩))
  grind
 ·rw[U];obtain⟨⟨q1,ie⟩,_⟩:=h.over bK ay bJ ag hp aw;have bb:t.place=0:=by omega
  rw[bb]at i2 i1;have zw:∀k,((((c.aq.set 0 (told x e (t.cr||x.bk.getD e.toNat false))).take k).map (fh e)).sum)=gR e c k:=fun k=>by
   have:=zX (fh e) (told x e (t.cr||x.bk.getD e.toNat false)) (k:=k) i2;rw[show fh e (told x e (t.cr||x.bk.getD e.toNat false))=fh e x from rfl,Int.sub_self,ite_self,Int.add_zero]at this;exact this
  refine⟨?_,fun dx hQ adO=>?_,fun _=>⟨fun z bb=>?_,ie⟩⟩
  ·refine (zw _).trans ?_;rw[show (gg (setW (cL c e ⟨false,t.place,t.sum,t.bN,t.cr⟩) 0 (told x e (t.cr||x.bk.getD e.toNat false))) (c.news++gv (c.aq.length-1) e (t.cr||x.bk.getD e.toNat false))).aq.length=c.aq.length from ho];exact h.total
  ·change (if 0<=e then (c.tokens.set e.toNat _)[e.toNat]? else none)=some dx at hQ;grind
  rcases iD bb with bb | rfl
  ·exact q1 z bb
  exact hp
 rw[U];refine⟨h.total,fun dx hQ adO=>?_,h.yO⟩;change (if 0<=e then (c.tokens.set e.toNat _)[e.toNat]? else none)=some dx at hQ;grind
theorem Inv.step{d:aO}{p:b7}(h:Inv e c)(he:0<=e/\e<=3)(bY:cx c=true)(st:Step c p d):Inv e d:=by
 cases st with
 | work x r q hk ag ao aH=>
  have aX:=jU bY ag;obtain⟨_,_,al⟩:=Dx aX;refine h.worker ag rfl rfl (sa ag rfl (fun k=>.inl k) id) (.inl ⟨rfl,id,rfl,fun k=>?_⟩);obtain⟨cA,bm,eK⟩:=n5.1 k;rw[aH]at bm;have gA:=bm r (h2 ..);refine⟨n5.2 ⟨cA,fun a ah=>bm a (gE _ ah),fun a ah=>?_⟩,?_⟩
  ·grind[ayz]
  have aC:=Ps (iB.1 aX).1 (r:=r) (by grind);grind[lF,xM,zY]
 | input x r t hk ag ao aH hi=>
  refine h.worker ag rfl rfl (sa ag rfl (fun k=>.inl k) id) (.inl ⟨rfl,id,rfl,fun k=>⟨?_,rfl⟩⟩);obtain⟨cA,bm,eK⟩:=n5.1 k;rw[hi]at cA;refine n5.2 ⟨fun a ah=>cA a (gE _ ah),fun a ah=>?_,fun a ah=>by cases ah⟩;grind
 | e9 x r t hk ag ao a8=>
  refine h.worker ag rfl rfl (sa ag rfl (fun k=>.inl k) id) (.inl ⟨rfl,id,rfl,fun k=>⟨?_,rfl⟩⟩);obtain⟨cA,bm,eK⟩:=n5.1 k;rw[ao]at eK;refine n5.2 ⟨cA,fun a ah=>?_,fun a ah=>eK a (gE _ ah)⟩;rcases hM.1 ah with ah | ah
  ·exact bm a ah
  grind
 | send x r t l hk ag ao a8 al hsend=>
  obtain⟨_,_,_,e1⟩:=DP hsend;have aX:=jU bY ag;obtain⟨vB,_,_⟩:=Dx aX;have aC:=Ps (iB.1 aX).2.1 (r:=r) (by grind);have bI:=Pr (e:=e) (m:=(eh l r).1) al;have rG:fh e (mF (hX x t) r.bl.ba)=fh e x+(if r.bl.ba=e then 1 else 0):=YS he aC vB;rw[e1,ayA e _ _ r _ _ _ _ l rfl]at bI;refine h.worker ag (d:=setW (dd c _ (eh l r).1) p.a _) rfl rfl (sa ag rfl (fun k=>.inl k) id) ?_;have vz:iW e (setW (dd c (d' c.au p.a (eZ r.key c.au.aq)) (eh l r).1) p.a (mF (hX x t) r.bl.ba))=iW e c+(if r.bl.ba=e then 1 else 0):=by
   rw[e1];change iW e (dd c _ _)=_;omega
  by_cases B':r.bl.ba=e
  ·rw[bq B']at rG vz;refine .inr (.inl ⟨?_,rG,id,vz⟩);rw[wW];intro k;obtain⟨_,_,eK⟩:=n5.1 k;grind
  rw[bD B']at rG vz;refine .inl ⟨by omega,id,by omega,fun k=>⟨?_,rfl⟩⟩;obtain⟨cA,bm,eK⟩:=n5.1 k;rw[ao]at eK;exact n5.2 ⟨cA,bm,fun a ah=>eK a (gE _ ah)⟩
 | take l x hk ec al ag bK=>
  obtain⟨_,r,q,aH,e2,e1⟩:=yb bK;have aX:=jU bY ag;obtain⟨vB,tW,_⟩:=Dx aX;have aC:=r7 (H5 (r6 bY al) bK).2;rw[e2]at aC;have bI:=Pr (e:=e) (m:=(dH l).1) al;have rG:fh e (ii x r)=fh e x+(if r.bl.ba=e then -1 else 0):=YS he aC vB;rw[e1,ayB e r q l aH l.cap l.eb (l.back+1) l.ek (l.db+1)]at bI;rw[e2];refine h.worker ag (d:=setW (dd c _ (dH l).1) p.b _) rfl rfl (sa ag rfl (fun k=>.inl k) id) ?_;have vz:iW e (setW (dd c (d' c.au p.a p.b) (dH l).1) p.b (ii x r))+(if r.bl.ba=e then 1 else 0)=iW e c:=by
   rw[e1];change iW e (dd c _ _)+_=_;omega
  by_cases B':r.bl.ba=e
  ·rw[bq B']at rG vz;grind[gF,ii,HE]
  rw[bD B']at rG vz;refine .inl ⟨by omega,fun k=>?_,by omega,fun k=>⟨?_,rfl⟩⟩
  ·grind[gF,ii,xM,zY]
  obtain⟨cA,bm,eK⟩:=n5.1 k;refine n5.2 ⟨cA,fun a ah=>?_,eK⟩;rcases hM.1 ah with ah | ah
  ·exact bm a ah
  grind
 | qc l hk ec al ai=>
  rcases yc l with⟨k,_⟩ | ⟨_,_,_,e1⟩
  ·grind
  have bI:=Pr (e:=e) (m:=(fQ l).1) al;have U:iy e (fQ l).1=iy e l:=by rw[e1];rfl
  have aA:iW e (dd c (d' c.au p.a p.b) (fQ l).1)=iW e c:=by omega
  refine⟨by rw[aA];exact h.total,fun t hQ ay=>?_,fun hQ=>⟨(h.yO hQ).1,by rw[aA];exact (h.yO hQ).2⟩⟩;have hA:=h.token t hQ ay;unfold Good at hA ⊢;rw[aA];exact hA
 | token t x cE hk iU bJ aE bK ag rq=>
  simp only[ax,cj]at iU;by_cases B8:p.a=e
  ·subst B8;exact h.aD3 bY bK ag
  exact h.aD2 he.1 iU.1 B8 ag
 | qo k n x hk aW aE ag=>
  obtain⟨cA,bm,eK⟩:=HG (x:=x) (n:=n) (e:=e);refine h.worker ag rfl rfl (sa ag rfl (fun q=>?_) (fun q=>?_)) (.inl ⟨cA,fun q=>bm.trans q,rfl,fun q=>⟨ayC.trans q,eK⟩⟩)
  ·rw[HF,o5]at q;rcases q with q | q
   ·exact .inl q
   exact .inr (o7.2 ⟨n,cD aW,q⟩)
  unfold kI at q ⊢;rw[o7]at q ⊢;obtain⟨m,hm,q⟩:=q;refine⟨m,?_,q⟩;change m∈cutAt c.news k at hm;grind[cutAt,sl,wY]
end Go.Proofs.YthfnndblgbjniaaGreat
namespace Go.Proofs.YthfnndblgbjniaaGreat
open Go.Sx Go.RowKit Go.Proofs.Tryz
def ta(r:az):Bool:=!eO r||r.op != 0||r.bl.dc != 0
def zN(g:bX)(xs:List az)(w e:Int):List az:=xs.filter fun r=>r.bl.ba==e&&eZ r.key g.aq==w
def pL(g:bX)(xs:List az)(w:Int)(n:Nat):List az:=(List.range n).flatMap fun e=>zN g xs w (e:Nat)
def own(g:bX)(xs:List az)(w:Int):List az:=pL g xs w 4
def lu(xs:List az):aK:=⟨[],[],xs,[],List.replicate 4 0,List.replicate 4 false,List.replicate 4 false,[]⟩
def k7(cap:Int):bj:=⟨gd cap 1 4,[],gd cap 1 4,0,0,0⟩
def Ea:bQ:=⟨false,0,0,false,false⟩
def p0(g:bX)(xs:List az)(n:Nat):List aK:=(List.range n).map fun w=>lu (own g xs (w:Nat))
def eL(g:bX)(xs:List az):aO:=⟨g,p0 g xs g.aq.toNat,List.replicate (g.aq.toNat*g.aq.toNat) (k7 g.cap),List.replicate 4 Ea,[]⟩
def YU:aO:=⟨⟨[],0,0⟩,[],[],[],[]⟩
def l9(g:bX)(xs:List az):Bool:=ej g&&decide (xs.length<=20)&&!xs.any ta
def zZ(g:bX)(xs:List az):aO×Bool:=if l9 g xs then (eL g xs,true) else (YU,false)
theorem YV(g:bX)(xs:List az)(w:Int)(n:Nat):pL g xs w (n+1)=pL g xs w n++zN g xs w (n:Nat):=by
 simp[pL,List.range_succ]
theorem YW(g:bX)(xs:List az)(w:Int)(n:Nat):(pL g xs w n).length<=n*xs.length:=by
 have h:=z8 (fun e:Nat=>zN g xs w (e:Nat)) xs.length (fun _=>o2 _ _) (List.range n);rwa[w3]at h
variable{xs:List az}
theorem Z6{g:bX}(al:xs.length<=20)(w:Int):(own g xs w).length<=80:=by
 have:=YW g xs w 4;unfold own;omega
theorem ayF{g:bX}(al:xs.length<=20)(w:Int){n:Nat}(aW:n<4):(pL g xs w n).length<=60:=by
 have:=YW g xs w n;have:n*xs.length<=3*20:=Nat.mul_le_mul (by omega) al;omega
theorem ayG(g:bX)(xs:List az)(n:Nat):p0 g xs (n+1)=p0 g xs n++[lu (own g xs (n:Nat))]:=by
 simp[p0,List.range_succ]
theorem z1(g:bX)(xs:List az)(n:Nat):(p0 g xs n).length=n:=by simp[p0]
theorem ayH{α:Type}{f:α->List D}{x:α}{m:Nat}:(List.replicate m x).map f++[f x]=(List.replicate (m+1) x).map f:=by
 rw[List.replicate_succ',gi];rfl
theorem Z7(cap:Int):ar 60 [.one (I cap)] [.agg (k7 cap).e]:=auA ⟨GZ cap 1 4,aa⟩
theorem Z8(xs:List az)(al:xs.length<=1000):ar 58 [.one (.J 5 (xs.map az.e))] [.agg (lu xs).e]:=
 auB ⟨nl (by simp;omega),ln (by simp;omega),dt _ az.flat _,by omega,by omega,by decide,by omega,by omega,by omega,by decide,by omega,by omega,by omega,by decide,by omega,aa⟩
theorem ayI(g:bX)(xs:List az)(w:Int)(aW:1<=g.aq/\g.aq<=4)(al:xs.length<=20):ar 59 [.agg g.e,.one (.J 5 (xs.map az.e)),.one (I w)] [.one (.J 5 ((own g xs w).map az.e))]:=by
 have eX:=fun (e:Nat) (he:e<4) (acc:List az) (ah:acc.length<=100)=>er (P:=prog) (c:=(ap f59 1)) (cn 2) xs.length (fun i:Nat=>uG (g.nodes.map Node.e) g.aq g.cap (xs.map az.e) w e i ((acc++(xs.take i).filter fun r=>r.bl.ba==(e:Int)&&eZ r.key g.aq==w).map az.e)) (fun i hi=>by
  obtain⟨r,aC⟩:=c5 hi;have bI:((xs.take i).filter fun r=>r.bl.ba==(e:Int)&&eZ r.key g.aq==w).length<=20:=by
   have:=o2 (fun r:az=>r.bl.ba==(e:Int)&&eZ r.key g.aq==w) (xs.take i);have:=OH i xs;omega
  rw[AN _ aC];generalize (xs.take i).filter (fun r=>r.bl.ba==(e:Int)&&eZ r.key g.aq==w)=eV at*;have oL:=GJ r.key g.aq (by omega);cases h1:(r.bl.ba==(e:Int)) with
  | false=>
   rw[Bool.false_and,bD (by decide),iO];exact as3 ⟨bV hi,bx,bH hi,bA az.e aC,h1,c0 hi (by omega),aa⟩
  | true=>
   cases U:(eZ r.key g.aq==w) with
   | false=>
    rw[Bool.and_false,bD (by decide),iO];exact as2 ⟨bV hi,bx,bH hi,bA az.e aC,h1,bx,bH hi,bA az.e aC,oL,U,c0 hi (by omega),aa⟩
   | true=>
    rw[va,bq rfl,<-mO,OF];exact as1 ⟨bV hi,bx,bH hi,bA az.e aC,h1,bx,bH hi,bA az.e aC,oL,U,bx,bH hi,bA az.e aC,by simp;omega,by simp;omega,gb (az.flat r),c0 hi (by omega),aa⟩) (as4 ⟨dq,aa⟩)
 have dn:=er (P:=prog) (c:=(ap f59 0)) (cn 0) 4 (fun n:Nat=>D0 (g.nodes.map Node.e) g.aq g.cap (xs.map az.e) w n ((pL g xs w n).map az.e)) (fun n aW=>by
  have:=eX n aW (pL g xs w n) (by have:=ayF (g:=g) al w aW;omega);rw[jh,List.take_zero,List.filter_nil,iO]at this;rw[YV];exact auw ⟨dh (by omega),this,⟨by omega,by omega⟩,aa⟩) (auy ⟨ea (by omega),aa⟩)
 exact auz ⟨dn,aa⟩
theorem Pu{g:bX}(h:l9 g xs=false):zZ g xs=(YU,false):=by unfold zZ;rw[h];rfl
theorem HI{g:bX}(h:l9 g xs=true):zZ g xs=(eL g xs,true):=by unfold zZ;rw[h];rfl
theorem ayJ(g:bX)(xs:List az)(al:xs.length<=20):
  (xs.any ta=false/\c8 prog (ap f22 0) (r9 (xs.map az.e) 0 0 0 (g.nodes.map Node.e) g.aq g.cap) (.exit 0) (OO (xs.map az.e) 0 0 (g.nodes.map Node.e) g.aq g.cap))\/
  (xs.any ta=true/\c8 prog (ap f22 0) (r9 (xs.map az.e) 0 0 0 (g.nodes.map Node.e) g.aq g.cap) .ret (Au false 0 0)):=by
 have l:=gl (P:=prog) (c:=(ap f22 0)) xs ta (fun i=>r9 (xs.map az.e) i 0 0 (g.nodes.map Node.e) g.aq g.cap) (e1:=.ret) (e2:=.exit 0) (X:=fun _ _=>Au false 0 0) eC (cn 0)
  (fun i a ah h=>by
   simp only[ta,fC]at h;have hi:=aY ah;exact att ⟨bV hi,bx,bH hi,bA az.e ah,uT a,h.1.1,bx,bH hi,bA az.e ah,h.1.2,bx,bH hi,bA az.e ah,h.2,c0 hi (by omega),aa⟩)
  (fun i a ah h=>by
   have hi:=aY ah;have gA:=uT a;unfold ta at h;cases h1:(!eO a) with
   | true=>exact atq ⟨bV hi,bx,bH hi,bA az.e ah,gA,h1,aa⟩
   | false=>
    cases U:(a.op != 0) with
    | true=>exact atr ⟨bV hi,bx,bH hi,bA az.e ah,gA,h1,bx,bH hi,bA az.e ah,U,aa⟩
    | false=>
     rw[h1,U,hn,hn]at h;exact ats ⟨bV hi,bx,bH hi,bA az.e ah,gA,h1,bx,bH hi,bA az.e ah,U,bx,bH hi,bA az.e ah,h,aa⟩)
  (atu ⟨dq,aa⟩)
 rcases l with⟨_,_,h1,U⟩ | ⟨i,a,_,_,_,_,h1,U⟩
 ·exact .inl ⟨h1,U⟩
 exact .inr ⟨h1,U⟩
theorem ayK(g:bX)(xs:List az)(aW:1<=g.aq/\g.aq<=4)(al:xs.length<=20):
  c8 prog (ap f22 1) (zR (xs.map az.e) 0 (g.nodes.map Node.e) g.aq g.cap [] [] ((List.replicate 4 Ea).map bQ.e) 0 0 (g.nodes.map Node.e) g.aq g.cap) (.exit 2)
   (OP (g.nodes.map Node.e) g.aq g.cap ((p0 g xs g.aq.toNat).map aK.e) ((List.replicate (g.aq.toNat*g.aq.toNat) (k7 g.cap)).map bj.e) ((List.replicate 4 Ea).map bQ.e) 0 0):=by
 obtain⟨n,lI⟩:∃n:Nat,g.aq=n:=⟨g.aq.toNat,by omega⟩
 have FG:n<=4:=by omega
 have nT:=fun (w:Nat) (m:Nat) (W T:List (List D)) (hm:m<=16)=>er (P:=prog) (c:=(ap f22 2)) (cn 4) n (fun k:Nat=>DZ (xs.map az.e) w k (g.nodes.map Node.e) g.aq g.cap W ((List.replicate (m+k) (k7 g.cap)).map bj.e) T 0 0 (g.nodes.map Node.e) g.aq g.cap) (fun k hk=>by
  rw[<-ES,<-ayH];exact asW ⟨dh (by omega),Z7 g.cap,by simp;omega,by simp;omega,⟨by omega,by omega⟩,aa⟩) (asX ⟨ea (by omega),aa⟩)
 have eX:=er (P:=prog) (c:=(ap f22 1)) (cn 2) n (fun w:Nat=>zR (xs.map az.e) w (g.nodes.map Node.e) g.aq g.cap ((p0 g xs w).map aK.e) ((List.replicate (w*n) (k7 g.cap)).map bj.e) ((List.replicate 4 Ea).map bQ.e) 0 0 (g.nodes.map Node.e) g.aq g.cap) (fun w hw=>by
  have ui:=z1 g xs w;have hm:w*n<=3*4:=Nat.mul_le_mul (by omega) FG;rw[ayG,OF,show (w+1)*n=w*n+n by rw[hK,Nat.one_mul]];exact asY ⟨dh (by omega),ayI g xs w aW al,Z8 _ (by have:=Z6 (g:=g) al (w:Nat);omega),by simp[ui];omega,by simp[ui];omega,nT w (w*n) _ _ (by omega),⟨by omega,by omega⟩,aa⟩) (asZ ⟨ea (by omega),aa⟩)
 rw[show ((0:Nat)*n)=0 by omega]at eX;rw[lI,lz];rw[lI]at eX;exact eX
theorem Pv(g:bX)(xs:List az)(ay:g.sz<=8388608):ar 22 [.agg g.e,.one (.J 5 (xs.map az.e))] [.agg (zZ g xs).1.e,.one (B (zZ g xs).2)]:=by
 have za:=Ab g ay;cases h1:ej g with
 | false=>
  rw[h1]at za;rw[Pu (by unfold l9;rw[h1];rfl)];exact ato ⟨za,rfl,aa⟩
 | true=>
 rw[h1]at za;by_cases al:xs.length<=20
 case neg=>
  rw[Pu (by unfold l9;rw[o8 al,Bool.and_false];rfl)];exact atp ⟨za,rfl,dh (by simp;omega),aa⟩
 rcases ayJ g xs al with⟨U,l⟩ | ⟨U,l⟩
 ·rw[HI (by unfold l9;rw[h1,U,k' al];rfl)];exact as0 ⟨za,rfl,ea (by simp;omega),l,Ye g ay,by omega,by omega,by decide,by omega,ayK g xs (iz h1) al,aa⟩
 rw[Pu (by unfold l9;rw[U];simp)];exact asV ⟨za,rfl,ea (by simp;omega),l,aa⟩
end Go.Proofs.YthfnndblgbjniaaGreat
namespace Go.Proofs.YthfnndblgbjniaaGreat
open Go.Sx Go.RowKit Go.Proofs.Tryz
theorem Dy{α:Type}{f:α->Nat}{k:Nat}:∀{xs:List α},(∀x∈xs,f x<=k)->(xs.map f).sum<=xs.length*k
 | [],_=>by simp
 | a::xs,h=>by
  have h1:=h a (by simp);have U:=Dy (f:=f) (k:=k) (xs:=xs) (fun x ag=>h x (by simp[ag]));simp only[mg,w4,gT,hK,Nat.one_mul];omega
theorem AW{g:bX}{xs:List az}:l9 g xs=true<->ej g=true/\xs.length<=20/\xs.any ta=false:=by
 simp only[l9,cu,cj,gp,and_assoc]
theorem Z9{g:bX}{xs:List az}(h:l9 g xs=true):(eL g xs).sz<=g.sz+1000:=by
 obtain⟨h1,U,_⟩:=AW.1 h;have aW:=iz h1;obtain⟨n,lI⟩:∃n:Nat,g.aq=n:=⟨g.aq.toNat,by omega⟩
 have a:=Dy (f:=aK.sz) (k:=92) (xs:=p0 g xs n) (fun x ag=>by
  simp only[p0,kr]at ag;obtain⟨w,_,rfl⟩:=ag;have:=Z6 (g:=g) U (w:Nat);simp only[lu,aK.sz,ew,List.length_replicate];omega)
 have b:=Dy (f:=bj.sz) (k:=0) (xs:=List.replicate (n*n) (k7 g.cap)) (fun x ag=>by
  rw[List.eq_of_mem_replicate ag];simp[k7,bj.sz])
 have hm:n*n<=4*4:=Nat.mul_le_mul (by omega) (by omega);simp only[eL,aO.sz,fw,lI,lz,List.length_replicate,ew,z1]at a b ⊢;omega
theorem Pw(g:bX)(xs:List az):fE (eL g xs):=by
 intro l al;have:=List.eq_of_mem_replicate al;subst this;simp[k7]
end Go.Proofs.YthfnndblgbjniaaGreat
namespace Go.Proofs.YthfnndblgbjniaaGreat
open Go.Sx Go.RowKit Go.Proofs.Tryz
structure j1 (c:aO):Prop where
 w:∀(i:Nat) x,c.aq[i]?=some x->(∀r∈x.queue,eZ r.key c.au.aq=i)/\∀r∈x.bM,eZ r.key c.au.aq=i
 l:∀(i:Nat) l,c.bn[i]?=some l->∀r∈l.queue,eZ r.key c.au.aq=(i:Int).tmod c.au.aq
variable{c:aO}
theorem j1.ok(h:j1 c)(aW:1<=c.au.aq):uC c=true:=by
 unfold uC;rw[Ak (p:=tI c.au.aq) fun i x ag=>?_,Ak (p:=pe c.au.aq) fun i l al=>?_]
 ·rfl
 ·simp only[pe,fC,kK,fx,n3,bne_iff_ne,lZ,Decidable.not_not];exact⟨by omega,h.l i l al⟩
 simp only[tI,fC,fx,n3,bne_iff_ne,lZ,Decidable.not_not];exact h.w i x ag
theorem j1.setW{c:aO}{i:Int}{y:aK}(h:j1 c)(bu:(∀r∈y.queue,eZ r.key c.au.aq=i.toNat)/\∀r∈y.bM,eZ r.key c.au.aq=i.toNat):j1 (setW c i y):=
 ⟨fun j x ag=>by
  rcases yh ag with⟨rfl,rfl⟩ | ⟨_,ag⟩
  ·exact bu
  exact h.w j x ag,h.l⟩
theorem j1.dd{c:aO}{i:Int}{m:bj}(h:j1 c)(hm:∀r∈m.queue,eZ r.key c.au.aq=(i.toNat:Int).tmod c.au.aq):j1 (dd c i m):=
 ⟨h.w,fun j l al=>by
  rcases yh al with⟨rfl,rfl⟩ | ⟨_,al⟩
  ·exact hm
  exact h.l j l al⟩
variable{i:Int}{x:aK}
theorem j1.at(h:j1 c)(ag:cd c i=some x):(∀r∈x.queue,eZ r.key c.au.aq=i.toNat)/\∀r∈x.bM,eZ r.key c.au.aq=i.toNat:=h.w _ x (eR ag).2.2
theorem j1.link{l:bj}(h:j1 c)(al:eF c i=some l):∀r∈l.queue,eZ r.key c.au.aq=(i.toNat:Int).tmod c.au.aq:=h.l _ l (iK al).2.2
theorem j1.cL{i:Int}{u:bQ}(h:j1 c):j1 (cL c i u):=⟨h.w,h.l⟩
variable{g:bX}
theorem HJ{a b:Int}(h:0<=d' g a b):ax a 0 (g.aq-1)=true/\ax b 0 (g.aq-1)=true:=by
 cases ai:(ax a 0 (g.aq-1)&&ax b 0 (g.aq-1)) with
 | true=>grind
 | false=>grind[uE]
variable{e:Int}
theorem j1.dF{t:bQ}(h:j1 c)(ag:cd c t.place=some x):j1 (dF c e t x).1:=by
 have aH:=h.at ag;rcases pZ c e t x with⟨_,U⟩ | ⟨_,_,⟨_,U⟩ | ⟨_,_,U⟩ | ⟨_,bJ,_,U⟩ | ⟨_,_,_,U⟩⟩
 ·grind
 ·rw[U];exact h.cL.setW aH
 ·rw[U];exact h.cL.setW aH
 ·rw[U];have bb:t.place=0:=by have:=(eR ag).1;omega
  rw[bb]at aH;have bm:=(h.cL (i:=e) (u:=⟨false,t.place,t.sum,t.bN,t.cr⟩)).setW (i:=0) (y:=told x e (t.cr||x.bk.getD e.toNat false)) aH;exact⟨bm.w,bm.l⟩
 rw[U];exact⟨h.w,h.l⟩
theorem j1.step{d:aO}{p:b7}(h:j1 c)(bY:cx c=true)(st:Step c p d):j1 d:=by
 have aW:=iz (fp.1 bY).1;cases st with
 | work x r q hk ag ao aH=>
  have:=h.at ag;rw[aH]at this;exact h.setW ⟨fun a ah=>this.1 a (gE _ ah),this.2⟩
 | input x r t hk ag ao aH hi=>
  have:=(h.at ag).2;rw[hi]at this;exact h.setW ⟨fun a ah=>this a (by grind),fun a ah=>this a (gE _ ah)⟩
 | e9 x r t hk ag ao a8=>
  have:=h.at ag;have hp:=(eR ag).1;refine h.setW ⟨fun a ah=>?_,this.2⟩;rcases hM.1 ah with ah | ah
  ·exact this.1 a ah
  grind
 | send x r t l hk ag ao a8 al hsend=>
  obtain⟨_,_,_,e1⟩:=DP hsend;obtain⟨g1,g2⟩:=HJ (iK al).1;obtain⟨_,_,_,_,F3⟩:=x9 aW g1 g2;have hp:=(iK al).1;have hw:=h.at ag;refine (h.dd (i:=d' c.au p.a (eZ r.key c.au.aq)) (m:=(eh l r).1) fun a ah=>?_).setW (c:=Go.Proofs.YthfnndblgbjniaaGreat.dd c _ _) hw;rw[e1]at ah;rcases hM.1 ah with ah | ah
  ·exact h.link al a ah
  grind
 | take l x hk ec al ag bK=>
  obtain⟨_,r,q,aH,e2,e1⟩:=yb bK;obtain⟨g1,g2⟩:=HJ (iK al).1;obtain⟨ic,_,_,_,F3⟩:=x9 aW g1 g2;have jn:=h.link al;rw[aH,Pq al,ic,F3]at jn;have aw:=(eR ag).1;refine (h.dd (i:=d' c.au p.a p.b) (m:=(dH l).1) fun a ah=>?_).setW (c:=Go.Proofs.YthfnndblgbjniaaGreat.dd c _ _) ⟨fun a ah=>?_,(h.at ag).2⟩
  ·grind
  rcases hM.1 ah with ah | ah
  ·exact (h.at ag).1 a ah
  obtain rfl:a=_:=by simpa using ah
  rw[e2];have:=jn r (h2 ..);change eZ r.key c.au.aq=_;omega
 | qc l hk ec al ai=>
  rcases yc l with⟨k,_⟩ | ⟨_,_,_,e1⟩
  ·grind
  refine h.dd fun a ah=>?_
  rw[e1]at ah;exact h.link al a ah
 | token t x cE hk iU bJ aE bK ag rq=>exact h.dF ag
 | qo k n x hk aW aE ag=>
  have aH:=h.at ag;have:=h.setW (i:=p.a) (y:=eg x n) (by
   unfold eg;split<;>exact aH)
  exact⟨this.w,this.l⟩
structure jk (S:Int) (c:aO):Prop where
 bB:∀x∈c.aq,∀k:Nat,-S<=x.bB.getD k 0/\x.bB.getD k 0<=S
 ek:∀l∈c.bn,l.ek<=S
 wT:∀t∈c.tokens,t.going=true->t.sum+200000*t.place<=600000/\-600000<=t.sum-200000*t.place
variable{S:Int}
theorem Z'{xs:List Int}{f d:Int}(aE:-1<=d/\d<=1)(h:∀k:Nat,-S<=xs.getD k 0/\xs.getD k 0<=S)(k:Nat):-(S+1)<=(l7 xs f d).getD k 0/\(l7 xs f d).getD k 0<=S+1:=by
 grind[l7,HE,List.set_eq_of_length_le,xM]
theorem jk.mono{T:Int}(h:jk S c)(hQ:S<=T):jk T c:=
 ⟨fun x ag k=>by have:=h.bB x ag k;omega,fun l al=>by have:=h.ek l al;omega,h.wT⟩
theorem jk.setW{c:aO}{i:Int}{y:aK}(h:jk S c)(bu:∀k:Nat,-S<=y.bB.getD k 0/\y.bB.getD k 0<=S):jk S (setW c i y):=
 ⟨fun x ag=>by
  rcases iD ag with ag | rfl
  ·exact h.bB x ag
  exact bu,h.ek,h.wT⟩
theorem jk.dd{c:aO}{i:Int}{m:bj}(h:jk S c)(hm:m.ek<=S):jk S (dd c i m):=
 ⟨h.bB,fun l al=>by
  rcases iD al with al | rfl
  ·exact h.ek l al
  exact hm,h.wT⟩
theorem jk.cL{i:Int}{u:bQ}(h:jk S c)(hu:u.going=true->u.sum+200000*u.place<=600000/\-600000<=u.sum-200000*u.place):jk S (cL c i u):=
 ⟨h.bB,h.ek,fun t bK=>by
  rcases iD bK with bK | rfl
  ·exact h.wT t bK
  exact hu⟩
theorem jk.at(h:jk S c)(ag:cd c i=some x):∀k:Nat,-S<=x.bB.getD k 0/\x.bB.getD k 0<=S:=h.bB x (cD (eR ag).2.2)
theorem jk.dF{t:bQ}(h:jk S c)(fF:S<=200000)(bY:cx c=true)(bK:hZ c e=some t)(ag:cd c t.place=some x):jk S (dF c e t x).1:=by
 have hw:=OD bY;have aw:=h.at ag;have aeW:=h.wT t (cD (x8 bK).2.2);rcases pZ c e t x with⟨_,U⟩ | ⟨_,_,⟨_,U⟩ | ⟨ay,bJ,U⟩ | ⟨_,bJ,_,U⟩ | ⟨_,_,_,U⟩⟩
 ·grind
 ·rw[U];exact (h.cL fun _=>⟨by grind,by grind⟩).setW aw
 ·rw[U];have aA:=aw e.toNat;have aJ:=aeW ay;exact (h.cL fun _=>⟨by grind,by grind⟩).setW aw
 ·rw[U];have:=(h.cL (i:=e) (u:=⟨false,t.place,t.sum,t.bN,t.cr⟩) (fun k=>by cases k)).setW (i:=0) (y:=told x e (t.cr||x.bk.getD e.toNat false)) aw;exact⟨this.bB,this.ek,this.wT⟩
 rw[U];exact h.cL fun k=>by cases k
theorem jk.step{d:aO}{p:b7}(h:jk S c)(fF:S<200000)(bY:cx c=true)(st:Step c p d):jk (S+1) d:=by
 have kS:=h.mono (show S<=S+1 by omega);cases st with
 | work x r q hk ag ao aH=>have aw:=kS.at ag;exact kS.setW aw
 | input x r t hk ag ao aH hi=>have aw:=kS.at ag;exact kS.setW aw
 | e9 x r t hk ag ao a8=>have aw:=kS.at ag;exact kS.setW aw
 | send x r t l hk ag ao a8 al hsend=>
  obtain⟨_,_,_,e1⟩:=DP hsend;have:=h.ek l (cD (iK al).2.2);have aw:=Z' (f:=r.bl.ba) (d:=1) (by omega) (h.at ag);exact (kS.dd (by grind)).setW aw
 | take l x hk ec al ag bK=>
  obtain⟨_,r,q,aH,e2,e1⟩:=yb bK;have:=h.ek l (cD (iK al).2.2);have aw:=Z' (f:=(dH l).2.1.bl.ba) (d:=-1) (by omega) (h.at ag);exact (kS.dd (by grind)).setW aw
 | qc l hk ec al ai=>
  rcases yc l with⟨k,_⟩ | ⟨_,_,_,e1⟩
  ·grind
  have:=h.ek l (cD (iK al).2.2);exact kS.dd (by grind)
 | token t x cE hk iU bJ aE bK ag rq=>exact (h.dF (by omega) bY bK ag).mono (by omega)
 | qo k n x hk aW aE ag=>
  have aw:=kS.at ag;have:=kS.setW (i:=p.a) (y:=eg x n) (by
   unfold eg;split<;>exact aw)
  exact⟨this.bB,this.ek,this.wT⟩
theorem ayL(p:b7)(bY:cx c=true)(aw:jk S c)(fF:S<1000000):cx (cX c p).1=true:=by
 have aW:=iz (fp.1 bY).1;have key:∀{i:Int} {x:aK},cd c i=some x->∀(k:Nat) (d:Int),-1<=d/\d<=1->ax (x.bB.getD k 0+d) (-1000000) 1000000=true:=fun ag k d aE=>by
  have:=aw.at ag k;simp only[ax,cj];omega
 unfold cX;split
 ·exact YA bY
 split
 ·exact YB bY
 split
 ·unfold je;rw[bq bY];cases ag:cd c p.a with
  | none=>exact bY
  | some x=>
   dsimp only;cases ao:x.b9 with
   | nil=>exact bY
   | cons r t=>
    dsimp only;unfold r5;split
    ·grind[Yy]
    rename_i a8;cases al:eF c (d' c.au p.a (eZ r.key c.au.aq)) with
    | none=>exact bY
    | some l=>
     dsimp only;split
     ·rename_i h;exact (Yx bY ag ao (DK _ aW.1) a8 al h).trans (key ag _ 1 (by omega))
     exact bY
 split
 ·unfold jS;split
  ·cases al:eF c (d' c.au p.a p.b) with
   | none=>exact bY
   | some l=>
    cases ag:cd c p.b with
    | none=>exact bY
    | some x=>
     dsimp only;split
     ·rename_i h;exact (Yz bY al ag h).trans (key ag _ (-1) (by omega))
     exact bY
  exact bY
 grind[YC,YE,YF]
structure iP (S:Int) (c:aO):Prop where
 ok:cx c=true
 owns:j1 c
 sx:jk S c
 inv:∀e:Int,0<=e/\e<=3->Inv e c
theorem iP.mono{T:Int}(h:iP S c)(hQ:S<=T):iP T c:=⟨h.ok,h.owns,h.sx.mono hQ,h.inv⟩
theorem iP.step(h:iP S c)(fF:S<200000)(p:b7):iP (S+1) (cX c p).1:=by
 have bY:=ayL p h.ok h.sx (by omega);rcases v8 c p with⟨_,U⟩ | ⟨_,_,st⟩
 ·rw[U];exact h.mono (by omega)
 exact⟨bY,h.owns.step h.ok st,h.sx.step fF h.ok st,fun e he=>(h.inv e he).step he h.ok st⟩
theorem iP.run{c:aO}:∀(l:List b7) {S:Int} {c:aO},iP S c->S+l.length<=200000->iP (S+l.length) (dg c l).1
 | [],S,c,h,_=>by grind[dg]
 | p::l,S,c,h,fF=>by
  simp only[gT]at fF ⊢;have:=iP.run (c:=c) l (h.step (by omega) p) (by omega);grind[dg,Nat,Int]
theorem ayM(he:0<=e/\e<=3)(fF:S<=1000000):∀(xs:List aK) (n:Int),(∀x∈xs,x.bB.length=4/\-S<=fh e x/\fh e x<=S)->xs.length<=1000->-1000000000000+(xs.length:Int)*1000000<=n/\n<=1000000000000-(xs.length:Int)*1000000->
  xs.foldl (sA e) n=n+(xs.map (fh e)).sum:=by
 intro xs;induction xs with
 | nil=>grind
 | cons x xs afm=>
  intro n h al aW;rw[gT]at al aW;obtain⟨h1,U,aA⟩:=h x (h2 ..);have eA:=afm (n+fh e x) (fun y bu=>h y (gE _ bu)) (by omega) (by omega);have aE:sA e n x=n+fh e x:=by
   unfold sA;rw[bq (by simp_all[ax,cj])];grind[aaP,IntKind.wrap_i64,fh]
  grind
theorem ayN(h:cx c=true)(aw:jk S c)(fF:S<=1000000)(he:0<=e/\e<=3):DG c e=gR e c c.aq.length:=by
 have hw:=OD h;unfold DG gR;rw[ayM he fF c.aq 0 (fun x ag=>?_) (by omega) (by omega),jh,Int.zero_add];obtain⟨i,hi⟩:=List.getElem?_of_mem ag;have aX:=jU (i:=i) h (x:=x) (by simp_all[cd,bq]);exact⟨(Dx aX).1,aw.bB x ag e.toNat⟩
theorem ayO(h:quiet e c):(∀r∈pX c,r.bl.ba≠e)/\∀x∈c.aq,∀r∈x.bM,e<r.bl.ba:=by
 obtain⟨h1,U⟩:=h;refine⟨fun r aC=>?_,fun x ag=>(n5.1 (h1 x ag)).1⟩;unfold pX at aC;rcases hM.1 aC with aC | aC
 ·obtain⟨x,ag,aC⟩:=lA.1 aC;obtain⟨_,bm,eK⟩:=n5.1 (h1 x ag);rcases hM.1 aC with aC | aC
  ·exact bm r aC
  grind
 obtain⟨l,al,aC⟩:=lA.1 aC;intro he;have bJ:iy e l=0:=by
  have:∀(xs:List bj),da (iy e) xs=0->∀l∈xs,iy e l=0:=by
   intro xs;induction xs with
   | nil=>grind
   | cons y ys eA=>
    grind[da]
  exact this c.bn U l al
 grind[iy,hF,List.length_eq_zero_iff,List.filter_eq_nil_iff]
theorem ayP{r:az}:r∈nn c<->r∈pX c:=by
 obtain⟨_,U⟩:=NM Qf (pX c) [] List.Pairwise.nil;exact (show (nn c).Perm (pX c) from U).mem_iff
theorem ayQ(h:quiet e c):wJ c e=[]/\wK c e=[]:=by
 obtain⟨h1,U⟩:=ayO h;constructor
 ·unfold wJ hF;rw[List.filter_eq_nil_iff];intro r aC;simpa using h1 r (ayP.1 aC)
 unfold wK;rw[List.flatMap_eq_nil_iff];intro x ag;unfold hF;rw[List.filter_eq_nil_iff];grind
theorem iP.acW(h:iP S c):c.bn.all mE=true:=by
 rw[gn];intro l al;obtain⟨i,hi⟩:=List.getElem?_of_mem al;have aw:=Al (fp.1 h.ok).2.2.2.2.2.1 hi;obtain⟨h1,_⟩:=oO.1 aw;obtain⟨_,aA,aJ,a7,_⟩:=n4.1 h1;grind[mE,k']
theorem iP.safe(h:iP S c)(fF:S<=200000):Aj c=true:=by
 have aW:=iz (fp.1 h.ok).1;unfold Aj;rw[h.ok,h.acW,h.owns.ok aW.1,lB,lB,lB,gp,fx];intro e he;rw[List.mem_range]at he;have pB:=h.inv e (by omega);unfold vX;have h1:uU c (e:Int)=true:=by
  unfold uU;cases hQ:(jA c (e:Int)||kI c (e:Int)) with
  | false=>rfl
  | true=>
   obtain⟨q1,ie⟩:=ayQ (pB.yO hQ);grind
 have U:DH c (e:Int)=true:=by
  unfold DH;rw[ayN h.ok h.sx (by omega) (by omega),pB.total];simp only[iW,da,yW]
 grind
theorem HK{xs:List az}{w:Int}{r:az}(h:r∈own g xs w):r∈xs/\eZ r.key g.aq=w:=by
 simp only[own,pL,lA,zN,List.mem_filter,cu,kq]at h;grind
theorem HL{xs:List az}{n i:Nat}(h:(p0 g xs n)[i]?=some x):x=lu (own g xs (i:Nat))/\i<n:=by
 grind[aY,z1,p0,gO]
