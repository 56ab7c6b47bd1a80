import Derived.Test.YtdchjefneblpgaaC5
set_option linter.unusedVariables false
set_option linter.unusedSimpArgs false
namespace Go.Proofs.Ytdchjefneblpgaa
open Go.Sx Go.RowKit
def ft(e:Int)(x:c'):Int:=x.gi.getD e.toNat 0
def iy(e:Int)(x:c'):Bool:=x.ey.getD e.toNat false
def kr(e:Int)(x:c'):Bool:=x.cD.getD e.toNat false
def h6(e:Int)(c:cQ)(k:Nat):Int:=((c.bg.take k).map (ft e)).sum
def hH(e:Int)(c:cQ):Nat:=z1 (nQ e) c.hl
def quiet(e:Int)(c:cQ):Prop:=(∀x∈c.bg,lE x e=true)/\hH e c=0
def Good(e:Int)(c:cQ)(t:hc):Prop:=
 ((∀(i:Nat) x,t.place<i->c.bg[i]?=some x->lE x e=true/\(kr e x=true->t.dn=true))/\h6 e c (t.place+1).toNat+t.sum=hH e c)\/
 0<h6 e c (t.place+1).toNat+t.sum\/(∃(i:Nat) (x:c'),(i:Int)<=t.place/\c.bg[i]?=some x/\iy e x=true)\/t.ey=true
structure Inv (e:Int) (c:cQ):Prop where
 total:h6 e c c.bg.length=hH e c
 token:∀t,k0 c e=some t->t.going=true->Good e c t
 w3:(uH c e||oR c e)=true->quiet e c
theorem wM{α:Type}(f:α->Int){y:α}(x:α):∀{xs:List α} {i k:Nat},xs[i]?=some y->(((xs.set i x).take k).map f).sum=((xs.take k).map f).sum+(if i<k then f x-f y else 0)
 | [],_,_,h=>by simp at h
 | a::xs,0,0,h=>by simp
 | a::xs,0,k+1,h=>by
  obtain rfl:a=y:=by simpa using h
  simp only[List.set_cons_zero,List.take_succ_cons,gE,qa];rw[bb (by omega)];omega
 | a::xs,i+1,0,h=>by simp
 | a::xs,i+1,k+1,h=>by
  have dw:=wM f x (xs:=xs) (i:=i) (k:=k) (by simpa using h);simp only[List.set_cons_succ,List.take_succ_cons,gE,qa,dw];by_cases aT:i<k
  ·rw[bb aT,bb (by omega)];omega
  rw[aZ aT,aZ (by omega)];omega
variable{i j:Nat}
theorem EZ{α:Type}{xs:List α}{y z:α}(h:(xs.set i y)[j]?=some z):(j=i/\z=y)\/(j≠i/\xs[j]?=some z):=by
 rw[iL]at h;split at h
 ·rename_i pt;split at h
  ·exact .inl ⟨pt.symm,(e0 h).symm⟩
  cases h
 exact .inr ⟨fun q=>‹¬i=j› q.symm,h⟩
theorem E0{α:Type}{xs:List α}{x y:α}(h:xs[i]?=some x):(xs.set i y)[i]?=some y:=by
 rw[iL,bb rfl,bb (ct h)]
theorem E1{α:Type}{xs:List α}{y z:α}(h:xs[j]?=some z)(aU:j≠i):(xs.set i y)[j]?=some z:=by
 rw[iL,aZ (fun q=>aU q.symm),h]
theorem LO{α:Type}{xs:List α}{x:α}(h:xs[i]?=some x):xs.set i x=xs:=by
 have ak:=ct h;rw[iM ak]at h;rw[<-e0 h];exact List.set_getElem_self ak
variable{e:Int}{c:cQ}{x:c'}
theorem Inv.worker{i:Int}{d:cQ}{y:c'}(h:Inv e c)(ae:hy c i=some x)(hw:d.bg=c.bg.set i.toNat y)(bH:k0 d e=k0 c e)
  (QO:(uH d e||oR d e)=true->(uH c e||oR c e)=true)
  (ai:(ft e y=ft e x/\(iy e x=true->iy e y=true)/\hH e d=hH e c/\(lE x e=true->lE y e=true/\kr e y=kr e x))\/
   (lE x e=false/\ft e y=ft e x+1/\(iy e x=true->iy e y=true)/\hH e d=hH e c+1)\/
   (hH e c=hH e d+1/\ft e y=ft e x-1/\iy e y=true)):Inv e d:=by
 obtain⟨i0,i1,i2⟩:=pQ ae;have hlen:d.bg.length=c.bg.length:=by rw[hw,kj]
 have tz:∀k,h6 e d k=h6 e c k+(if i.toNat<k then ft e y-ft e x else 0):=fun k=>by
  unfold h6;rw[hw];exact wM (ft e) y i2
 have nc:x∈c.bg:=h7 i2;refine⟨?_,fun t hY ag=>?_,fun hY=>?_⟩
 ·rw[tz,hlen,bb i1,h.total];rcases ai with⟨J,_,ax,_⟩ | ⟨_,U,_,aJ⟩ | ⟨J,U,_⟩<;>omega
 ·have fo:=h.token t (bH▸hY) ag;unfold Good at fo ⊢;rw[tz];have rM:(iy e x=true->iy e y=true)->(∃(j:Nat) (z:c'),(j:Int)<=t.place/\c.bg[j]?=some z/\iy e z=true)->∃(j:Nat) (z:c'),(j:Int)<=t.place/\d.bg[j]?=some z/\iy e z=true:=by
   rintro ah ⟨j,z,g1,g2,g3⟩;by_cases aU:j=i.toNat
   ·subst aU;rw[i2]at g2;cases g2;exact⟨_,y,g1,by rw[hw];exact E0 i2,ah g3⟩
   exact⟨j,z,g1,by rw[hw];exact E1 g2 aU,g3⟩
  rcases ai with⟨J,U,ax,aJ⟩ | ⟨J,U,ax,aJ⟩ | ⟨J,U,ax⟩
  ·rcases fo with⟨dD,xS⟩ | g | g | g
   ·refine .inl ⟨fun j z aU aL=>?_,?_⟩
    ·rw[hw]at aL;rcases EZ aL with⟨rfl,rfl⟩ | ⟨_,aL⟩
     ·have:=dD _ x aU i2;obtain⟨cf,bM⟩:=aJ this.1;exact⟨cf,fun e4=>this.2 (bM▸e4)⟩
     exact dD j z aU aL
    ·split<;>omega
   ·exact .inr (.inl (by split<;>omega))
   ·exact .inr (.inr (.inl (rM U g)))
   exact .inr (.inr (.inr g))
  ·rcases fo with⟨dD,xS⟩ | g | g | g
   ·have hle:¬t.place<i.toNat:=fun bk=>by
     have:=(dD _ x bk i2).1;rw[J]at this;cases this
    refine .inl ⟨fun j z aU aL=>?_,?_⟩
    ·rw[hw]at aL;rcases EZ aL with⟨rfl,rfl⟩ | ⟨_,aL⟩
     ·exact absurd aU hle
     exact dD j z aU aL
    rw[bb (by omega)];omega
   ·exact .inr (.inl (by split<;>omega))
   ·exact .inr (.inr (.inl (rM ax g)))
   exact .inr (.inr (.inr g))
  by_cases hle:(i.toNat:Int)<=t.place
  ·exact .inr (.inr (.inl ⟨i.toNat,y,hle,by rw[hw];exact E0 i2,ax⟩))
  rw[aZ (by omega)];rcases fo with⟨_,xS⟩ | g | ⟨j,z,g1,g2,g3⟩ | g
  ·exact .inr (.inl (by omega))
  ·exact .inr (.inl (by omega))
  ·exact .inr (.inr (.inl ⟨j,z,g1,by rw[hw];exact E1 g2 (by omega),g3⟩))
  exact .inr (.inr (.inr g))
 obtain⟨q1,pJ⟩:=h.w3 (QO hY);have hp:=q1 x nc;rcases ai with⟨_,_,ax,aJ⟩ | ⟨J,_⟩ | ⟨J,_⟩
 ·refine⟨fun z aL=>?_,by omega⟩;rw[hw]at aL;rcases oV aL with aL | rfl
  ·exact q1 z aL
  exact (aJ hp).1
 ·rw[hp]at J;cases J
 omega
theorem nR:lE x e=true<->(∀r∈x.hI,e<r.bl.aV)/\(∀r∈x.queue,r.bl.aV≠e)/\∀r∈x.iq,r.bl.aV≠e:=by
 simp only[lE,MO,MP,il,b0,gD,hP,cF,fR];rw[show ∀a b:Nat,a+b=0<->a=0/\b=0 from fun a b=>by omega,List.length_eq_zero_iff,List.length_eq_zero_iff,List.filter_eq_nil_iff,List.filter_eq_nil_iff];simp only[fR,Int.not_le]
theorem E2(g:bz)(cs:List Cell)(r:aQ):∀q∈(cO g cs r).2.1,q.bl.aV=r.bl.aV:=by
 intro q aw;unfold cO at aw;split at aw
 ·rename_i n _;unfold cU at aw;have ad:∀s:fl,s.aV=r.bl.aV->∀k v,q∈fu n s k v->q.bl.aV=r.bl.aV:=by
   intro s vI k v hm;simp only[fu,eC]at hm;obtain⟨o,_,rfl⟩:=hm;exact vI
  have aR:(dm r.bl).1.aV=r.bl.aV:=by
   unfold dm;split<;>rfl
  grind
 cases aw
theorem zO{α:Type}{xs:List α}{a d:α}(h:i≠j):(xs.set i a).getD j d=xs.getD j d:=by
 simp only[jz,iL,aZ h]
theorem LP{α:Type}{xs:List α}{a d:α}(h:i<xs.length):(xs.set i a).getD i d=a:=by
 simp[jz,h]
theorem E3{i e:Int}{l m:eK}(h:nv c i=some l):hH e (jw c i m)+nQ e l=hH e c+nQ e m:=by
 unfold hH;exact abp m (FE h).2.2
theorem abq(e cap:Int)(q:List aQ)(r:aQ)(a b s g:Int)(l:eK)(ak:l.queue=q):nQ e ⟨cap,q++[r],a,b,s,g⟩=nQ e l+(if r.bl.aV=e then 1 else 0):=by
 simp only[nQ,il,List.filter_append,mz,ak,List.filter_cons,List.filter_nil,fR];split<;>rfl
theorem abr(e:Int)(r:aQ)(q:List aQ)(l:eK)(ak:l.queue=r::q)(cap a b s g:Int):nQ e l=nQ e ⟨cap,q,a,b,s,g⟩+(if r.bl.aV=e then 1 else 0):=by
 simp only[nQ,il,ak,List.filter_cons,fR];split<;>simp
theorem nS{c d:cQ}{i:Int}{y:c'}(ae:hy c i=some x)(ay:d.bg=c.bg.set i.toNat y)(h:nN y e=true->nN x e=true\/oR c e=true)(aR:oR d e=true->oR c e=true):
  (uH d e||oR d e)=true->(uH c e||oR c e)=true:=by
 simp only[mD];rintro (hw | hw)
 ·unfold uH at hw ⊢;rw[ay,oY]at hw;obtain⟨z,aL,Hv⟩:=hw;rcases oV aL with aL | rfl
  ·exact .inl (oY.2 ⟨z,aL,Hv⟩)
  rcases h Hv with J | J
  ·exact .inl (oY.2 ⟨x,h7 (pQ ae).2.2,J⟩)
  exact .inr J
 exact .inr (aR hw)
theorem wN{a b:Int}(aC:0<=a)(ah:0<=b)(h:a≠b):a.toNat≠b.toNat:=by omega
variable{f:Int}
theorem LQ{d:Int}(he:0<=e/\e<=3)(bn:0<=f/\f<=3){xs:List Int}(ak:xs.length=4):(yo xs f d).getD e.toNat 0=xs.getD e.toNat 0+(if f=e then d else 0):=by
 unfold yo;by_cases h:f=e
 ·subst h;rw[LP (by omega),bb rfl]
 rw[zO (wN bn.1 he.1 h),aZ h];omega
theorem E4{g:bz}{w:c'}(h:qK g w=true):w.gi.length=4/\w.ey.length=4/\w.cD.length=4:=by
 obtain⟨_,_,_,_,a1,bt,bQ,_⟩:=FG.1 h;exact⟨a1,bt,bQ⟩
theorem LR{g:bz}{xs:List aQ}(h:jt g xs=true){r:aQ}(ar:r∈xs):0<=r.bl.aV/\r.bl.aV<=3:=by
 simp only[jt,gD,hP]at h;exact L1 (g:=g) (by simpa using h r ar)
theorem LS{b:Bool}:nN (told x f b) e=(nN x e||f==e):=by
 simp[nN,told]
theorem abt{n:jd}:nN (n' x n) e=(nN x e||n.aV==e):=by
 unfold n';split
 ·rename_i h;by_cases he:n.aV=e
  ·subst he;rw[h];rfl
  have:(n.aV==e)=false:=by simpa using he
  rw[this,Bool.or_false]
 exact LS
theorem abu{n:jd}:lE (n' x n) e=lE x e:=by
 unfold n';split<;>rfl
theorem abv{x:c'}{n:jd}{e:Int}:ft e (n' x n)=ft e x/\iy e (n' x n)=iy e x/\kr e (n' x n)=kr e x:=by
 unfold n';split<;>exact⟨rfl,rfl,rfl⟩
theorem LU{k:Nat}(h:c.bg[k]?=some x):h6 e c (k+1)=h6 e c k+ft e x:=by
 simp[h6,uP,h]
variable{t:hc}
theorem zP(he:0<=e)(bn:0<=f)(h:f≠e):(if 0<=e then (c.tokens.set f.toNat t)[e.toNat]? else none)=k0 c e:=by
 unfold k0;rw[iL,aZ (wN bn he h)]
theorem abw{n:Nat}{b:Bool}(h:f≠e):((c.news++qL n f b).any fun x=>x.aV==e)=oR c e:=by
 rw[List.any_append];have:((qL n f b).any fun x=>x.aV==e)=false:=by
  rw[hP];intro x ae;simp only[qL,eC]at ae;obtain⟨_,_,rfl⟩:=ae;simpa using h
 rw[this,Bool.or_false];rfl
theorem Inv.ad1(h:Inv e c)(he:0<=e)(bn:0<=f)(cl:f≠e)(ae:hy c t.place=some x):Inv e (lF c f t x).1:=by
 have Ns:iy e (io x f)=iy e x:=by
  unfold iy io;exact zO (wN bn he cl)
 rcases Mo c f t x with⟨_,U⟩ | ⟨_,_,J⟩
 ·rw[U];exact h
 rcases J with⟨_,U⟩ | ⟨_,_,U⟩ | ⟨_,bX,_,U⟩ | ⟨_,_,_,U⟩
 ·rw[U];exact h.worker ae rfl (zP he bn cl) (nS ae rfl (fun k=>.inl k) id) (.inl ⟨rfl,fun k=>Ns.trans k,rfl,fun k=>⟨k,rfl⟩⟩)
 ·rw[U];exact h.worker ae rfl (zP he bn cl) (nS ae rfl (fun k=>.inl k) id) (.inl ⟨rfl,fun k=>Ns.trans k,rfl,fun k=>⟨k,rfl⟩⟩)
 ·rw[U];have aL:t.place=0:=by have:=(pQ ae).1;omega
  rw[aL]at ae;refine h.worker ae rfl (zP he bn cl) (nS ae rfl (fun k=>?_) (fun k=>(abw cl).symm.trans k)) (.inl ⟨rfl,id,rfl,fun k=>⟨k,rfl⟩⟩);rw[LS]at k;have:(f==e)=false:=by simpa using cl
  rw[this,Bool.or_false]at k;exact .inl k
 rw[U];exact h.worker (y:=x) ae (LO (pQ ae).2.2).symm (zP he bn cl) (nS ae (LO (pQ ae).2.2).symm (fun k=>.inl k) id) (.inl ⟨rfl,id,rfl,fun k=>⟨k,rfl⟩⟩)
theorem abx{n:Int}(h:0<=n):(n+1).toNat=n.toNat+1:=by omega
theorem aby{n:Int}:(n-1+1).toNat=n.toNat:=by rw[Int.sub_add_cancel]
theorem E5{u:hc}(h:k0 c e=some t):(if 0<=e then (c.tokens.set e.toNat u)[e.toNat]? else none)=some u:=by
 obtain⟨bX,_,U⟩:=L0 h;rw[bb bX];exact E0 U
theorem Inv.over(h:Inv e c)(bH:k0 c e=some t)(ag:t.going=true)(bX:¬0<t.place)(ae:hy c t.place=some x)(hp:lE x e=true)
  (ah:t.ey=false/\x.ey.getD e.toNat false=false/\t.sum+x.gi.getD e.toNat 0=0):quiet e c/\((t.dn||kr e x)=false->∀z∈c.bg,kr e z=false):=by
 have aL:t.place=0:=by have:=(pQ ae).1;omega
 obtain⟨_,_,iu⟩:=pQ ae;rw[aL]at iu;have ad:h6 e c 1=ft e x:=by rw[LU (k:=0) iu];simp[h6]
 have fo:=h.token t bH ag;unfold Good at fo;rw[aL]at fo;change ((_/\h6 e c 1+t.sum=_)\/0<h6 e c 1+t.sum\/_) at fo;rw[ad]at fo;have xZ:t.sum+ft e x=0:=ah.2.2;rcases fo with⟨dD,xS⟩ | g | ⟨i,z,g1,g2,g3⟩ | g
 ·have key:∀z∈c.bg,lE z e=true/\(kr e z=true->(t.dn||kr e x)=true):=by
   intro z aL;obtain⟨i,hi⟩:=List.getElem?_of_mem aL;by_cases J:i=0
   ·subst J;rw[show c.bg[0]?=some x from iu]at hi;cases hi;exact⟨hp,fun k=>by rw[k,Bool.or_true]⟩
   obtain⟨cf,bM⟩:=dD i z (by omega) hi;exact⟨cf,fun k=>by rw[bM k,Bool.true_or]⟩
  refine⟨⟨fun z aL=>(key z aL).1,by omega⟩,fun e4 z aL=>?_⟩;cases PL:kr e z with
  | false=>rfl
  | true=>rw[(key z aL).2 PL]at e4;cases e4
 ·omega
 ·have:i=0:=by omega
  subst this;rw[show c.bg[0]?=some x from iu]at g2;cases g2;rw[show iy e x=false from ah.2.1]at g3;cases g3
 rw[ah.1]at g;cases g
theorem Inv.ad2(h:Inv e c)(cb:kP c=true)(bH:k0 c e=some t)(ae:hy c t.place=some x):Inv e (lF c e t x).1:=by
 obtain⟨i0,i1,i2⟩:=pQ ae;obtain⟨_,_,HW,_⟩:=abk.1 (aaw cb bH);rcases Mo c e t x with⟨_,U⟩ | ⟨_,hp,J⟩
 ·rw[U];exact h
 have whole:∀u:hc,(u.going=true->Good e (setW (iY c e u) t.place (io x e)) u)->Inv e (setW (iY c e u) t.place (io x e)):=by
  intro u hu;have tz:∀k,h6 e (setW (iY c e u) t.place (io x e)) k=h6 e c k:=fun k=>by
   have:=wM (ft e) (io x e) (k:=k) i2;rw[show ft e (io x e)=ft e x from rfl,Int.sub_self,ite_self,Int.add_zero]at this;exact this
  refine⟨?_,fun c3 hY ag=>?_,fun hY=>?_⟩
  ·rw[tz,show (setW (iY c e u) t.place (io x e)).bg.length=c.bg.length from kj];exact h.total
  ·rw[show k0 (setW (iY c e u) t.place (io x e)) e=some u from E5 bH]at hY;cases hY;exact hu ag
  obtain⟨q1,pJ⟩:=h.w3 (nS (c:=c) (d:=setW (iY c e u) t.place (io x e)) ae rfl (fun k=>.inl k) id hY);refine⟨fun z aL=>?_,pJ⟩;rcases oV aL with aL | rfl
  ·exact q1 z aL
  exact hp
 have yz:∀(u:hc) k,h6 e (setW (iY c e u) t.place (io x e)) k=h6 e c k:=fun u k=>by
  have:=wM (ft e) (io x e) (k:=k) i2;rw[show ft e (io x e)=ft e x from rfl,Int.sub_self,ite_self,Int.add_zero]at this;exact this
 rcases J with⟨ag,U⟩ | ⟨ag,bX,U⟩ | ⟨ag,bX,ah,U⟩ | ⟨ag,bX,ah,U⟩
 ·rw[U];refine whole _ fun _=>.inl ⟨fun j z aU aL=>?_,?_⟩
  ·have:=ct aL;rw[show (setW (iY c e _) t.place (io x e)).bg.length=c.bg.length from kj]at this;change (c.bg.length:Int)-1<j at aU;omega
  rw[yz];change h6 e c ((c.bg.length:Int)-1+1).toNat+0=hH e c;rw[show ((c.bg.length:Int)-1+1).toNat=c.bg.length by omega,Int.add_zero];exact h.total
 ·rw[U];have fo:=h.token t bH ag;refine whole _ fun _=>?_
  unfold Good at fo ⊢;rw[yz];change ((∀(i:Nat) z,t.place-1<i->_->_)/\h6 e c (t.place-1+1).toNat+(t.sum+ft e x)=hH e c)\/0<h6 e c (t.place-1+1).toNat+(t.sum+ft e x)\/(∃(i:Nat) (z:c'),(i:Int)<=t.place-1/\_)\/(t.ey||iy e x)=true;rw[abx i0,LU i2]at fo;rw[aby];rcases fo with⟨dD,xS⟩ | g | ⟨i,z,g1,g2,g3⟩ | g
  ·refine .inl ⟨fun j z aU aL=>?_,by omega⟩;change (c.bg.set t.place.toNat (io x e))[j]?=some z at aL;rcases EZ aL with⟨rfl,rfl⟩ | ⟨cl,aL⟩
   ·exact⟨hp,fun k=>by change (t.dn||kr e x)=true;rw[show kr e x=true from k,Bool.or_true]⟩
   obtain⟨cf,bM⟩:=dD j z (by omega) aL;exact⟨cf,fun k=>by change (t.dn||kr e x)=true;rw[bM k,Bool.true_or]⟩
  ·exact .inr (.inl (by omega))
  ·by_cases hi:i=t.place.toNat
   ·subst hi;rw[i2]at g2;cases g2;exact .inr (.inr (.inr (by rw[g3,Bool.or_true])))
   exact .inr (.inr (.inl ⟨i,z,by omega,E1 g2 hi,g3⟩))
  exact .inr (.inr (.inr (by rw[g,Bool.true_or])))
 ·rw[U];obtain⟨⟨q1,pJ⟩,_⟩:=h.over bH ag bX ae hp ah;have aL:t.place=0:=by omega
  rw[aL]at i2 i1;have tz:∀k,((((c.bg.set 0 (told x e (t.dn||x.cD.getD e.toNat false))).take k).map (ft e)).sum)=h6 e c k:=fun k=>by
   have:=wM (ft e) (told x e (t.dn||x.cD.getD e.toNat false)) (k:=k) i2;rw[show ft e (told x e (t.dn||x.cD.getD e.toNat false))=ft e x from rfl,Int.sub_self,ite_self,Int.add_zero]at this;exact this
  refine⟨?_,fun c3 hY tu=>?_,fun _=>⟨fun z aL=>?_,pJ⟩⟩
  ·refine (tz _).trans ?_;rw[show (p1 (setW (iY c e ⟨false,t.place,t.sum,t.ey,t.dn⟩) 0 (told x e (t.dn||x.cD.getD e.toNat false))) (c.news++qL (c.bg.length-1) e (t.dn||x.cD.getD e.toNat false))).bg.length=c.bg.length from kj];exact h.total
  ·change (if 0<=e then (c.tokens.set e.toNat _)[e.toNat]? else none)=some c3 at hY;rw[E5 bH]at hY;cases hY;cases tu
  rcases oV aL with aL | rfl
  ·exact q1 z aL
  exact hp
 rw[U];refine⟨h.total,fun c3 hY tu=>?_,h.w3⟩;change (if 0<=e then (c.tokens.set e.toNat _)[e.toNat]? else none)=some c3 at hY;rw[E5 bH]at hY;cases hY;cases tu
theorem Inv.step{d:cQ}{p:n2}(h:Inv e c)(he:0<=e/\e<=3)(cb:kP c=true)(st:Step c p d):Inv e d:=by
 cases st with
 | work x r q aT ae ad aw=>
  have rh:=FF cb ae;obtain⟨_,_,ak⟩:=E4 rh;refine h.worker ae rfl rfl (nS ae rfl (fun k=>.inl k) id) (.inl ⟨rfl,id,rfl,fun k=>?_⟩);obtain⟨cf,bM,fy⟩:=nR.1 k;rw[aw]at bM;have oq:=bM r (fk ..);refine⟨nR.2 ⟨cf,fun a aC=>bM a (eQ _ aC),fun a aC=>?_⟩,?_⟩
  ·rw[E2 _ _ _ a aC];exact oq
  have ar:=LR (FG.1 rh).1 (r:=r) (by rw[aw];exact fk ..);unfold kr;dsimp only;split
  ·exact zO (wN ar.1 he.1 oq)
  rfl
 | input x r t aT ae ad aw hi=>
  refine h.worker ae rfl rfl (nS ae rfl (fun k=>.inl k) id) (.inl ⟨rfl,id,rfl,fun k=>⟨?_,rfl⟩⟩);obtain⟨cf,bM,fy⟩:=nR.1 k;rw[hi]at cf;refine nR.2 ⟨fun a aC=>cf a (eQ _ aC),fun a aC=>?_,fun a aC=>by cases aC⟩;obtain rfl:a=r:=by simpa using aC
  have:=cf a (fk ..);omega
 | eF x r t aT ae ad aM=>
  refine h.worker ae rfl rfl (nS ae rfl (fun k=>.inl k) id) (.inl ⟨rfl,id,rfl,fun k=>⟨?_,rfl⟩⟩);obtain⟨cf,bM,fy⟩:=nR.1 k;rw[ad]at fy;refine nR.2 ⟨cf,fun a aC=>?_,fun a aC=>fy a (eQ _ aC)⟩;rcases hA.1 aC with aC | aC
  ·exact bM a aC
  obtain rfl:a=r:=by simpa using aC
  exact fy a (fk ..)
 | send x r t l aT ae ad aM ak hsend=>
  obtain⟨_,_,_,aK⟩:=abm hsend;have rh:=FF cb ae;obtain⟨BQ,_,_⟩:=E4 rh;have ar:=LR (FG.1 rh).2.1 (r:=r) (by rw[ad];exact fk ..);have bn:=E3 (e:=e) (m:=(oM l r).1) ak;have tD:ft e (zK (uq x t) r.bl.aV)=ft e x+(if r.bl.aV=e then 1 else 0):=LQ he ar BQ;rw[aK,abq e _ _ r _ _ _ _ l rfl]at bn;refine h.worker ae (d:=setW (jw c _ (oM l r).1) p.a _) rfl rfl (nS ae rfl (fun k=>.inl k) id) ?_;have pr:hH e (setW (jw c (kb c.cY p.a (sk r.key c.cY.bg)) (oM l r).1) p.a (zK (uq x t) r.bl.aV))=hH e c+(if r.bl.aV=e then 1 else 0):=by
   rw[aK];change hH e (jw c _ _)=_;omega
  by_cases iD:r.bl.aV=e
  ·rw[bb iD]at tD pr;refine .inr (.inl ⟨?_,tD,id,pr⟩);rw[Oy];intro k;obtain⟨_,_,fy⟩:=nR.1 k;exact fy r (by rw[ad];exact fk ..) iD
  rw[aZ iD]at tD pr;refine .inl ⟨by omega,id,by omega,fun k=>⟨?_,rfl⟩⟩;obtain⟨cf,bM,fy⟩:=nR.1 k;rw[ad]at fy;exact nR.2 ⟨cf,bM,fun a aC=>fy a (eQ _ aC)⟩
 | take l x aT jj ak ae bH=>
  obtain⟨_,r,q,aw,aO,aK⟩:=abn bH;have rh:=FF cb ae;obtain⟨BQ,Br,_⟩:=E4 rh;have ar:=L1 (abj (aav cb ak) bH).2;rw[aO]at ar;have bn:=E3 (e:=e) (m:=(ju l).1) ak;have tD:ft e (ur x r)=ft e x+(if r.bl.aV=e then -1 else 0):=LQ he ar BQ;rw[aK,abr e r q l aw l.cap l.jY (l.back+1) l.kd (l.hW+1)]at bn;rw[aO];refine h.worker ae (d:=setW (jw c _ (ju l).1) p.b _) rfl rfl (nS ae rfl (fun k=>.inl k) id) ?_;have pr:hH e (setW (jw c (kb c.cY p.a p.b) (ju l).1) p.b (ur x r))+(if r.bl.aV=e then 1 else 0)=hH e c:=by
   rw[aK];change hH e (jw c _ _)+_=_;omega
  by_cases iD:r.bl.aV=e
  ·rw[bb iD]at tD pr;refine .inr (.inr ⟨pr.symm,by omega,?_⟩);unfold iy ur;dsimp only;rw[iD];exact LP (by omega)
  rw[aZ iD]at tD pr;refine .inl ⟨by omega,fun k=>?_,by omega,fun k=>⟨?_,rfl⟩⟩
  ·unfold iy ur;dsimp only;rw[zO (wN ar.1 he.1 iD)];exact k
  obtain⟨cf,bM,fy⟩:=nR.1 k;refine nR.2 ⟨cf,fun a aC=>?_,fy⟩;rcases hA.1 aC with aC | aC
  ·exact bM a aC
  obtain rfl:a=r:=by simpa using aC
  exact iD
 | OU l aT jj ak ai=>
  rcases abo l with⟨k,_⟩ | ⟨_,_,_,aK⟩
  ·rw[ai]at k;cases k
  have bn:=E3 (e:=e) (m:=(mn l).1) ak;have U:nQ e (mn l).1=nQ e l:=by rw[aK];rfl
  have ax:hH e (jw c (kb c.cY p.a p.b) (mn l).1)=hH e c:=by omega
  refine⟨by rw[ax];exact h.total,fun t hY ag=>?_,fun hY=>⟨(h.w3 hY).1,by rw[ax];exact (h.w3 hY).2⟩⟩;have fo:=h.token t hY ag;unfold Good at fo ⊢;rw[ax];exact fo
 | token t x ri aT l3 bX ay bH ae aff=>
  simp only[af,cF]at l3;by_cases HS:p.a=e
  ·subst HS;exact h.ad2 cb bH ae
  exact h.ad1 he.1 l3.1 HS ae
 | PQ k n x aT aR ay ae=>
  obtain⟨cf,bM,fy⟩:=abv (x:=x) (n:=n) (e:=e);refine h.worker ae rfl rfl (nS ae rfl (fun q=>?_) (fun q=>?_)) (.inl ⟨cf,fun q=>bM.trans q,rfl,fun q=>⟨abu.trans q,fy⟩⟩)
  ·rw[abt,mD]at q;rcases q with q | q
   ·exact .inl q
   exact .inr (oY.2 ⟨n,h7 aR,q⟩)
  unfold oR at q ⊢;rw[oY]at q ⊢;obtain⟨m,hm,q⟩:=q;refine⟨m,?_,q⟩;change m∈cutAt c.news k at hm;unfold cutAt at hm;rcases hA.1 hm with hm | hm
  ·exact xq hm
  exact Ay hm
