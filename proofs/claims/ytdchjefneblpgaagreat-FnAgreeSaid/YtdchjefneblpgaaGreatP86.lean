import Derived.Test.YtdchjefneblpgaaGreatP42
import Derived.Test.YtdchjefneblpgaaGreatP43
import Derived.Test.YtdchjefneblpgaaGreatGY
set_option linter.unusedVariables false
set_option linter.unusedSimpArgs false
namespace Go.Proofs.YtdchjefneblpgaaGreat
open Go.Sx Go.RowKit Go.Proofs.Tryz
def e0(e:Int)(x:aL):Int:=x.bM.getD e.toNat 0
def gn(e:Int)(x:aL):Bool:=x.bV.getD e.toNat false
def kn(e:Int)(x:aL):Bool:=x.bm.getD e.toNat false
def gG(e:Int)(c:aU)(k:Nat):Int:=((c.aq.take k).map (e0 e)).sum
def jg(e:Int)(c:aU):Nat:=c4 (oC e) c.bK
def quiet(e:Int)(c:aU):Prop:=(∀x∈c.aq,kA x e=true)/\jg e c=0
def Good(e:Int)(c:aU)(t:bQ):Prop:=
 ((∀(i:Nat) x,t.place<i->c.aq[i]?=some x->kA x e=true/\(kn e x=true->t.ca=true))/\gG e c (t.place+1).toNat+t.sum=jg e c)\/
 0<gG e c (t.place+1).toNat+t.sum\/(∃(i:Nat) (x:aL),(i:Int)<=t.place/\c.aq[i]?=some x/\gn e x=true)\/t.bV=true
structure Inv (e:Int) (c:aU):Prop where
 total:gG e c c.aq.length=jg e c
 token:∀t,hE c e=some t->t.going=true->Good e c t
 Af:(nV c e||nc c e)=true->quiet e c
theorem zi{α:Type}(f:α->Int){y:α}(x:α):∀{xs:List α} {i k:Nat},xs[i]?=some y->(((xs.set i x).take k).map f).sum=((xs.take k).map f).sum+(if i<k then f x-f y else 0)
 | [],_,_,h=>by simp at h
 | a::xs,0,0,h=>by simp
 | a::xs,0,k+1,h=>by
  obtain rfl:a=y:=by simpa using h
  simp only[List.set_cons_zero,List.take_succ_cons,k8,rO];rw[aZ (by omega)];omega
 | a::xs,i+1,0,h=>by simp
 | a::xs,i+1,k+1,h=>by
  have dk:=zi f x (xs:=xs) (i:=i) (k:=k) (by simpa using h);simp only[List.set_cons_succ,List.take_succ_cons,k8,rO,dk];by_cases hk:i<k
  ·rw[aZ hk,aZ (by omega)];omega
  rw[a6 hk,a6 (by omega)];omega
variable{i j:Nat}
theorem vG{α:Type}{xs:List α}{y z:α}(h:(xs.set i y)[j]?=some z):(j=i/\z=y)\/(j≠i/\xs[j]?=some z):=by
 rw[jy]at h;split at h
 ·rename_i lh;split at h
  ·exact .inl ⟨lh.symm,(eQ h).symm⟩
  cases h
 exact .inr ⟨fun q=>‹¬i=j› q.symm,h⟩
theorem py{α:Type}{xs:List α}{x y:α}(h:xs[i]?=some x):(xs.set i y)[i]?=some y:=by
 rw[jy,aZ rfl,aZ (aX h)]
theorem Cv{α:Type}{xs:List α}{y z:α}(h:xs[j]?=some z)(aP:j≠i):(xs.set i y)[j]?=some z:=by
 rw[jy,a6 (fun q=>aP q.symm),h]
theorem Cw{α:Type}{xs:List α}{x:α}(h:xs[i]?=some x):xs.set i x=xs:=by
 have aj:=aX h;rw[gz aj]at h;rw[<-eQ h];exact List.set_getElem_self aj
variable{e:Int}{c:aU}{x:aL}
theorem Inv.worker{i:Int}{d:aU}{y:aL}(h:Inv e c)(aa:b3 c i=some x)(hw:d.aq=c.aq.set i.toNat y)(bq:hE d e=hE c e)
  (aaq:(nV d e||nc d e)=true->(nV c e||nc c e)=true)
  (af:(e0 e y=e0 e x/\(gn e x=true->gn e y=true)/\jg e d=jg e c/\(kA x e=true->kA y e=true/\kn e y=kn e x))\/
   (kA x e=false/\e0 e y=e0 e x+1/\(gn e x=true->gn e y=true)/\jg e d=jg e c+1)\/
   (jg e c=jg e d+1/\e0 e y=e0 e x-1/\gn e y=true)):Inv e d:=by
 obtain⟨i0,i1,i2⟩:=eK aa;have hlen:d.aq.length=c.aq.length:=by rw[hw,fN]
 have yN:∀k,gG e d k=gG e c k+(if i.toNat<k then e0 e y-e0 e x else 0):=fun k=>by
  unfold gG;rw[hw];exact zi (e0 e) y i2
 have q3:x∈c.aq:=cG i2;refine⟨?_,fun t gO ar=>?_,fun gO=>?_⟩
 ·rw[yN,hlen,aZ i1,h.total];rcases af with⟨h1,_,ax,_⟩ | ⟨_,U,_,aF⟩ | ⟨h1,U,_⟩<;>omega
 ·have hy:=h.token t (bq▸gO) ar;unfold Good at hy ⊢;rw[yN];have O8:(gn e x=true->gn e y=true)->(∃(j:Nat) (z:aL),(j:Int)<=t.place/\c.aq[j]?=some z/\gn e z=true)->∃(j:Nat) (z:aL),(j:Int)<=t.place/\d.aq[j]?=some z/\gn e z=true:=by
   rintro ao ⟨j,z,g1,g2,g3⟩;by_cases aP:j=i.toNat
   ·subst aP;rw[i2]at g2;cases g2;exact⟨_,y,g1,by rw[hw];exact py i2,ao g3⟩
   exact⟨j,z,g1,by rw[hw];exact Cv g2 aP,g3⟩
  rcases af with⟨h1,U,ax,aF⟩ | ⟨h1,U,ax,aF⟩ | ⟨h1,U,ax⟩
  ·rcases hy with⟨eG,D0⟩ | g | g | g
   ·refine .inl ⟨fun j z aP aW=>?_,?_⟩
    ·rw[hw]at aW;rcases vG aW with⟨rfl,rfl⟩ | ⟨_,aW⟩
     ·have:=eG _ x aP i2;obtain⟨cy,bw⟩:=aF this.1;exact⟨cy,fun f'=>this.2 (bw▸f')⟩
     exact eG j z aP aW
    ·split<;>omega
   ·exact .inr (.inl (by split<;>omega))
   ·exact .inr (.inr (.inl (O8 U g)))
   exact .inr (.inr (.inr g))
  ·rcases hy with⟨eG,D0⟩ | g | g | g
   ·have hle:¬t.place<i.toNat:=fun bu=>by
     have:=(eG _ x bu i2).1;rw[h1]at this;cases this
    refine .inl ⟨fun j z aP aW=>?_,?_⟩
    ·rw[hw]at aW;rcases vG aW with⟨rfl,rfl⟩ | ⟨_,aW⟩
     ·exact absurd aP hle
     exact eG j z aP aW
    rw[aZ (by omega)];omega
   ·exact .inr (.inl (by split<;>omega))
   ·exact .inr (.inr (.inl (O8 ax g)))
   exact .inr (.inr (.inr g))
  by_cases hle:(i.toNat:Int)<=t.place
  ·exact .inr (.inr (.inl ⟨i.toNat,y,hle,by rw[hw];exact py i2,ax⟩))
  rw[a6 (by omega)];rcases hy with⟨_,D0⟩ | g | ⟨j,z,g1,g2,g3⟩ | g
  ·exact .inr (.inl (by omega))
  ·exact .inr (.inl (by omega))
  ·exact .inr (.inr (.inl ⟨j,z,g1,by rw[hw];exact Cv g2 (by omega),g3⟩))
  exact .inr (.inr (.inr g))
 obtain⟨q1,jK⟩:=h.Af (aaq gO);have hp:=q1 x q3;rcases af with⟨_,_,ax,aF⟩ | ⟨h1,_⟩ | ⟨h1,_⟩
 ·refine⟨fun z aW=>?_,by omega⟩;rw[hw]at aW;rcases h8 aW with aW | rfl
  ·exact q1 z aW
  exact (aF hp).1
 ·rw[hp]at h1;cases h1
 omega
theorem pz:kA x e=true<->(∀r∈x.bZ,e<r.bh.a7)/\(∀r∈x.queue,r.bh.a7≠e)/\∀r∈x.cp,r.bh.a7≠e:=by
 simp only[kA,xF,Un,l3,b8,gy,ff,b',dp];rw[show ∀a b:Nat,a+b=0<->a=0/\b=0 from fun a b=>by omega,List.length_eq_zero_iff,List.length_eq_zero_iff,List.filter_eq_nil_iff,List.filter_eq_nil_iff];simp only[dp,Int.not_le]
variable{g:b0}
theorem agB{cs:List Cell}{r:aE}:∀q∈(dW g cs r).2.1,q.bh.a7=r.bh.a7:=by
 intro q aA;unfold dW at aA;split at aA
 ·rename_i n _;unfold dS at aA;have ai:∀s:hT,s.a7=r.bh.a7->∀k v,q∈e3 n s k v->q.bh.a7=r.bh.a7:=by
   intro s En k v hm;simp only[e3,jZ]at hm;obtain⟨o,_,rfl⟩:=hm;exact En
  have aK:(eS r.bh).1.a7=r.bh.a7:=by
   unfold eS;split<;>rfl
  grind
 cases aA
theorem xM{α:Type}{xs:List α}{a d:α}(h:i≠j):(xs.set i a).getD j d=xs.getD j d:=by
 simp only[iF,jy,a6 h]
theorem Gf{α:Type}{xs:List α}{a d:α}(h:i<xs.length):(xs.set i a).getD i d=a:=by
 simp[iF,h]
theorem Mc{i e:Int}{l m:bt}(h:eB c i=some l):jg e (db c i m)+oC e l=jg e c+oC e m:=by
 unfold jg;exact Ge m (iT h).2.2
theorem agC(e cap:Int)(q:List aE)(r:aE)(a b s g:Int)(l:bt)(aj:l.queue=q):oC e ⟨cap,q++[r],a,b,s,g⟩=oC e l+(if r.bh.a7=e then 1 else 0):=by
 simp only[oC,l3,List.filter_append,k7,aj,List.filter_cons,List.filter_nil,dp];split<;>rfl
theorem agD(e:Int)(r:aE)(q:List aE)(l:bt)(aj:l.queue=r::q)(cap a b s g:Int):oC e l=oC e ⟨cap,q,a,b,s,g⟩+(if r.bh.a7=e then 1 else 0):=by
 simp only[oC,l3,aj,List.filter_cons,dp];split<;>simp
theorem rv{c d:aU}{i:Int}{y:aL}(aa:b3 c i=some x)(aB:d.aq=c.aq.set i.toNat y)(h:ew y e=true->ew x e=true\/nc c e=true)(aK:nc d e=true->nc c e=true):
  (nV d e||nc d e)=true->(nV c e||nc c e)=true:=by
 simp only[ni];rintro (hw | hw)
 ·unfold nV at hw ⊢;rw[aB,l9]at hw;obtain⟨z,aW,iL⟩:=hw;rcases h8 aW with aW | rfl
  ·exact .inl (l9.2 ⟨z,aW,iL⟩)
  rcases h iL with h1 | h1
  ·exact .inl (l9.2 ⟨x,cG (eK aa).2.2,h1⟩)
  exact .inr h1
 exact .inr (aK hw)
theorem xN{a b:Int}(ad:0<=a)(ao:0<=b)(h:a≠b):a.toNat≠b.toNat:=by omega
variable{f:Int}
theorem T1{d:Int}(he:0<=e/\e<=3)(bg:0<=f/\f<=3){xs:List Int}(aj:xs.length=4):(mO xs f d).getD e.toNat 0=xs.getD e.toNat 0+(if f=e then d else 0):=by
 unfold mO;by_cases h:f=e
 ·subst h;rw[Gf (by omega),aZ rfl]
 rw[xM (xN bg.1 he.1 h),a6 h];omega
theorem Cx{w:aL}(h:e6 g w=true):w.bM.length=4/\w.bV.length=4/\w.bm.length=4:=by
 obtain⟨_,_,_,_,aQ,bb,bN,_⟩:=ik.1 h;exact⟨aQ,bb,bN⟩
theorem Md{xs:List aE}(h:gu g xs=true){r:aE}(az:r∈xs):0<=r.bh.a7/\r.bh.a7<=3:=by
 simp only[gu,gy,ff]at h;exact sD (g:=g) (by simpa using h r az)
theorem vH{b:Bool}:ew (told x f b) e=(ew x e||f==e):=by
 simp[ew,told]
theorem Gg{n:bT}:ew (ea x n) e=(ew x e||n.a7==e):=by
 unfold ea;split
 ·rename_i h;by_cases he:n.a7=e
  ·subst he;rw[h];rfl
  have:(n.a7==e)=false:=by simpa using he
  rw[this,Bool.or_false]
 exact vH
theorem agE{n:bT}:kA (ea x n) e=kA x e:=by
 unfold ea;split<;>rfl
theorem Gh{x:aL}{n:bT}{e:Int}:e0 e (ea x n)=e0 e x/\gn e (ea x n)=gn e x/\kn e (ea x n)=kn e x:=by
 unfold ea;split<;>exact⟨rfl,rfl,rfl⟩
theorem Gi{k:Nat}(h:c.aq[k]?=some x):gG e c (k+1)=gG e c k+e0 e x:=by
 simp[gG,sS,h]
variable{t:bQ}
theorem vI(he:0<=e)(bg:0<=f)(h:f≠e):(if 0<=e then (c.tokens.set f.toNat t)[e.toNat]? else none)=hE c e:=by
 unfold hE;rw[jy,a6 (xN bg he h)]
theorem T2{n:Nat}{b:Bool}(h:f≠e):((c.news++fU n f b).any fun x=>x.a7==e)=nc c e:=by
 rw[List.any_append];have:((fU n f b).any fun x=>x.a7==e)=false:=by
  rw[ff];intro x aa;simp only[fU,jZ]at aa;obtain⟨_,_,rfl⟩:=aa;simpa using h
 rw[this,Bool.or_false];rfl
theorem Inv.avo(h:Inv e c)(he:0<=e)(bg:0<=f)(cf:f≠e)(aa:b3 c t.place=some x):Inv e (dx c f t x).1:=by
 have CU:gn e (er x f)=gn e x:=by
  unfold gn er;exact xM (xN bg he cf)
 rcases qh c f t x with⟨_,U⟩ | ⟨_,_,h1⟩
 ·rw[U];exact h
 rcases h1 with⟨_,U⟩ | ⟨_,_,U⟩ | ⟨_,bl,_,U⟩ | ⟨_,_,_,U⟩
 ·rw[U];exact h.worker aa rfl (vI he bg cf) (rv aa rfl (fun k=>.inl k) id) (.inl ⟨rfl,fun k=>CU.trans k,rfl,fun k=>⟨k,rfl⟩⟩)
 ·rw[U];exact h.worker aa rfl (vI he bg cf) (rv aa rfl (fun k=>.inl k) id) (.inl ⟨rfl,fun k=>CU.trans k,rfl,fun k=>⟨k,rfl⟩⟩)
 ·rw[U];have aW:t.place=0:=by have:=(eK aa).1;omega
  rw[aW]at aa;refine h.worker aa rfl (vI he bg cf) (rv aa rfl (fun k=>?_) (fun k=>(T2 cf).symm.trans k)) (.inl ⟨rfl,id,rfl,fun k=>⟨k,rfl⟩⟩);rw[vH]at k;have:(f==e)=false:=by simpa using cf
  rw[this,Bool.or_false]at k;exact .inl k
 rw[U];exact h.worker (y:=x) aa (Cw (eK aa).2.2).symm (vI he bg cf) (rv aa (Cw (eK aa).2.2).symm (fun k=>.inl k) id) (.inl ⟨rfl,id,rfl,fun k=>⟨k,rfl⟩⟩)
theorem agF{n:Int}(h:0<=n):(n+1).toNat=n.toNat+1:=by omega
theorem agG{n:Int}:(n-1+1).toNat=n.toNat:=by rw[Int.sub_add_cancel]
theorem Cy{u:bQ}(h:hE c e=some t):(if 0<=e then (c.tokens.set e.toNat u)[e.toNat]? else none)=some u:=by
 obtain⟨bl,_,U⟩:=xH h;rw[aZ bl];exact py U
theorem Inv.over(h:Inv e c)(bq:hE c e=some t)(ar:t.going=true)(bl:¬0<t.place)(aa:b3 c t.place=some x)(hp:kA x e=true)
  (ao:t.bV=false/\x.bV.getD e.toNat false=false/\t.sum+x.bM.getD e.toNat 0=0):quiet e c/\((t.ca||kn e x)=false->∀z∈c.aq,kn e z=false):=by
 have aW:t.place=0:=by have:=(eK aa).1;omega
 obtain⟨_,_,gd⟩:=eK aa;rw[aW]at gd;have ai:gG e c 1=e0 e x:=by rw[Gi (k:=0) gd];simp[gG]
 have hy:=h.token t bq ar;unfold Good at hy;rw[aW]at hy;change ((_/\gG e c 1+t.sum=_)\/0<gG e c 1+t.sum\/_) at hy;rw[ai]at hy;have yE:t.sum+e0 e x=0:=ao.2.2;rcases hy with⟨eG,D0⟩ | g | ⟨i,z,g1,g2,g3⟩ | g
 ·have key:∀z∈c.aq,kA z e=true/\(kn e z=true->(t.ca||kn e x)=true):=by
   intro z aW;obtain⟨i,hi⟩:=List.getElem?_of_mem aW;by_cases h1:i=0
   ·subst h1;rw[show c.aq[0]?=some x from gd]at hi;cases hi;exact⟨hp,fun k=>by rw[k,Bool.or_true]⟩
   obtain⟨cy,bw⟩:=eG i z (by omega) hi;exact⟨cy,fun k=>by rw[bw k,Bool.true_or]⟩
  refine⟨⟨fun z aW=>(key z aW).1,by omega⟩,fun f' z aW=>?_⟩;cases Y5:kn e z with
  | false=>rfl
  | true=>rw[(key z aW).2 Y5]at f';cases f'
 ·omega
 ·have:i=0:=by omega
  subst this;rw[show c.aq[0]?=some x from gd]at g2;cases g2;rw[show gn e x=false from ao.2.1]at g3;cases g3
 rw[ao.1]at g;cases g
theorem Inv.avp(h:Inv e c)(bD:cq c=true)(bq:hE c e=some t)(aa:b3 c t.place=some x):Inv e (dx c e t x).1:=by
 obtain⟨i0,i1,i2⟩:=eK aa;obtain⟨_,_,Ek,_⟩:=sE.1 (zh bD bq);rcases qh c e t x with⟨_,U⟩ | ⟨_,hp,h1⟩
 ·rw[U];exact h
 have whole:∀u:bQ,(u.going=true->Good e (setW (cM c e u) t.place (er x e)) u)->Inv e (setW (cM c e u) t.place (er x e)):=by
  intro u hu;have yN:∀k,gG e (setW (cM c e u) t.place (er x e)) k=gG e c k:=fun k=>by
   have:=zi (e0 e) (er x e) (k:=k) i2;rw[show e0 e (er x e)=e0 e x from rfl,Int.sub_self,ite_self,Int.add_zero]at this;exact this
  refine⟨?_,fun dc gO ar=>?_,fun gO=>?_⟩
  ·rw[yN,show (setW (cM c e u) t.place (er x e)).aq.length=c.aq.length from fN];exact h.total
  ·rw[show hE (setW (cM c e u) t.place (er x e)) e=some u from Cy bq]at gO;cases gO;exact hu ar
  obtain⟨q1,jK⟩:=h.Af (rv (c:=c) (d:=setW (cM c e u) t.place (er x e)) aa rfl (fun k=>.inl k) id gO);refine⟨fun z aW=>?_,jK⟩;rcases h8 aW with aW | rfl
  ·exact q1 z aW
  exact hp
 have za:∀(u:bQ) k,gG e (setW (cM c e u) t.place (er x e)) k=gG e c k:=fun u k=>by
  have:=zi (e0 e) (er x e) (k:=k) i2;rw[show e0 e (er x e)=e0 e x from rfl,Int.sub_self,ite_self,Int.add_zero]at this;exact this
 rcases h1 with⟨ar,U⟩ | ⟨ar,bl,U⟩ | ⟨ar,bl,ao,U⟩ | ⟨ar,bl,ao,U⟩
 ·rw[U];refine whole _ fun _=>.inl ⟨fun j z aP aW=>?_,?_⟩
  ·have:=aX aW;rw[show (setW (cM c e _) t.place (er x e)).aq.length=c.aq.length from fN]at this;change (c.aq.length:Int)-1<j at aP;omega
  rw[za];change gG e c ((c.aq.length:Int)-1+1).toNat+0=jg e c;rw[show ((c.aq.length:Int)-1+1).toNat=c.aq.length by omega,Int.add_zero];exact h.total
 ·rw[U];have hy:=h.token t bq ar;refine whole _ fun _=>?_
  unfold Good at hy ⊢;rw[za];change ((∀(i:Nat) z,t.place-1<i->_->_)/\gG e c (t.place-1+1).toNat+(t.sum+e0 e x)=jg e c)\/0<gG e c (t.place-1+1).toNat+(t.sum+e0 e x)\/(∃(i:Nat) (z:aL),(i:Int)<=t.place-1/\_)\/(t.bV||gn e x)=true;rw[agF i0,Gi i2]at hy;rw[agG];rcases hy with⟨eG,D0⟩ | g | ⟨i,z,g1,g2,g3⟩ | g
  ·refine .inl ⟨fun j z aP aW=>?_,by omega⟩;change (c.aq.set t.place.toNat (er x e))[j]?=some z at aW;rcases vG aW with⟨rfl,rfl⟩ | ⟨cf,aW⟩
   ·exact⟨hp,fun k=>by change (t.ca||kn e x)=true;rw[show kn e x=true from k,Bool.or_true]⟩
   obtain⟨cy,bw⟩:=eG j z (by omega) aW;exact⟨cy,fun k=>by change (t.ca||kn e x)=true;rw[bw k,Bool.true_or]⟩
  ·exact .inr (.inl (by omega))
  ·by_cases hi:i=t.place.toNat
   ·subst hi;rw[i2]at g2;cases g2;exact .inr (.inr (.inr (by rw[g3,Bool.or_true])))
   exact .inr (.inr (.inl ⟨i,z,by omega,Cv g2 hi,g3⟩))
  exact .inr (.inr (.inr (by rw[g,Bool.true_or])))
 ·rw[U];obtain⟨⟨q1,jK⟩,_⟩:=h.over bq ar bl aa hp ao;have aW:t.place=0:=by omega
  rw[aW]at i2 i1;have yN:∀k,((((c.aq.set 0 (told x e (t.ca||x.bm.getD e.toNat false))).take k).map (e0 e)).sum)=gG e c k:=fun k=>by
   have:=zi (e0 e) (told x e (t.ca||x.bm.getD e.toNat false)) (k:=k) i2;rw[show e0 e (told x e (t.ca||x.bm.getD e.toNat false))=e0 e x from rfl,Int.sub_self,ite_self,Int.add_zero]at this;exact this
  refine⟨?_,fun dc gO ID=>?_,fun _=>⟨fun z aW=>?_,jK⟩⟩
  ·refine (yN _).trans ?_;rw[show (hg (setW (cM c e ⟨false,t.place,t.sum,t.bV,t.ca⟩) 0 (told x e (t.ca||x.bm.getD e.toNat false))) (c.news++fU (c.aq.length-1) e (t.ca||x.bm.getD e.toNat false))).aq.length=c.aq.length from fN];exact h.total
  ·change (if 0<=e then (c.tokens.set e.toNat _)[e.toNat]? else none)=some dc at gO;rw[Cy bq]at gO;cases gO;cases ID
  rcases h8 aW with aW | rfl
  ·exact q1 z aW
  exact hp
 rw[U];refine⟨h.total,fun dc gO ID=>?_,h.Af⟩;change (if 0<=e then (c.tokens.set e.toNat _)[e.toNat]? else none)=some dc at gO;rw[Cy bq]at gO;cases gO;cases ID
theorem Inv.step{d:aU}{p:b9}(h:Inv e c)(he:0<=e/\e<=3)(bD:cq c=true)(st:Step c p d):Inv e d:=by
 cases st with
 | work x r q hk aa ai aA=>
  have a':=jr bD aa;obtain⟨_,_,aj⟩:=Cx a';refine h.worker aa rfl rfl (rv aa rfl (fun k=>.inl k) id) (.inl ⟨rfl,id,rfl,fun k=>?_⟩);obtain⟨cy,bw,fc⟩:=pz.1 k;rw[aA]at bw;have fP:=bw r (eY ..);refine⟨pz.2 ⟨cy,fun a ad=>bw a (fw _ ad),fun a ad=>?_⟩,?_⟩
  ·rw[agB a ad];exact fP
  have az:=Md (ik.1 a').1 (r:=r) (by rw[aA];exact eY ..);unfold kn;dsimp only;split
  ·exact xM (xN az.1 he.1 fP)
  rfl
 | input x r t hk aa ai aA hi=>
  refine h.worker aa rfl rfl (rv aa rfl (fun k=>.inl k) id) (.inl ⟨rfl,id,rfl,fun k=>⟨?_,rfl⟩⟩);obtain⟨cy,bw,fc⟩:=pz.1 k;rw[hi]at cy;refine pz.2 ⟨fun a ad=>cy a (fw _ ad),fun a ad=>?_,fun a ad=>by cases ad⟩;obtain rfl:a=r:=by simpa using ad
  have:=cy a (eY ..);omega
 | eW x r t hk aa ai aN=>
  refine h.worker aa rfl rfl (rv aa rfl (fun k=>.inl k) id) (.inl ⟨rfl,id,rfl,fun k=>⟨?_,rfl⟩⟩);obtain⟨cy,bw,fc⟩:=pz.1 k;rw[ai]at fc;refine pz.2 ⟨cy,fun a ad=>?_,fun a ad=>fc a (fw _ ad)⟩;rcases gV.1 ad with ad | ad
  ·exact bw a ad
  obtain rfl:a=r:=by simpa using ad
  exact fc a (eY ..)
 | send x r t l hk aa ai aN aj hsend=>
  obtain⟨_,_,_,e1⟩:=Cu hsend;have a':=jr bD aa;obtain⟨uR,_,_⟩:=Cx a';have az:=Md (ik.1 a').2.1 (r:=r) (by rw[ai];exact eY ..);have bg:=Mc (e:=e) (m:=(ei l r).1) aj;have ra:e0 e (my (iB x t) r.bh.a7)=e0 e x+(if r.bh.a7=e then 1 else 0):=T1 he az uR;rw[e1,agC e _ _ r _ _ _ _ l rfl]at bg;refine h.worker aa (d:=setW (db c _ (ei l r).1) p.a _) rfl rfl (rv aa rfl (fun k=>.inl k) id) ?_;have tu:jg e (setW (db c (dX c.ay p.a (eJ r.key c.ay.aq)) (ei l r).1) p.a (my (iB x t) r.bh.a7))=jg e c+(if r.bh.a7=e then 1 else 0):=by
   rw[e1];change jg e (db c _ _)=_;omega
  by_cases tx:r.bh.a7=e
  ·rw[aZ tx]at ra tu;refine .inr (.inl ⟨?_,ra,id,tu⟩);rw[h7];intro k;obtain⟨_,_,fc⟩:=pz.1 k;exact fc r (by rw[ai];exact eY ..) tx
  rw[a6 tx]at ra tu;refine .inl ⟨by omega,id,by omega,fun k=>⟨?_,rfl⟩⟩;obtain⟨cy,bw,fc⟩:=pz.1 k;rw[ai]at fc;exact pz.2 ⟨cy,bw,fun a ad=>fc a (fw _ ad)⟩
 | take l x hk dD aj aa bq=>
  obtain⟨_,r,q,aA,e2,e1⟩:=xJ bq;have a':=jr bD aa;obtain⟨uR,ti,_⟩:=Cx a';have az:=sD (Fb (rr bD aj) bq).2;rw[e2]at az;have bg:=Mc (e:=e) (m:=(dI l).1) aj;have ra:e0 e (k1 x r)=e0 e x+(if r.bh.a7=e then -1 else 0):=T1 he az uR;rw[e1,agD e r q l aA l.cap l.eC (l.back+1) l.eF (l.dZ+1)]at bg;rw[e2];refine h.worker aa (d:=setW (db c _ (dI l).1) p.b _) rfl rfl (rv aa rfl (fun k=>.inl k) id) ?_;have tu:jg e (setW (db c (dX c.ay p.a p.b) (dI l).1) p.b (k1 x r))+(if r.bh.a7=e then 1 else 0)=jg e c:=by
   rw[e1];change jg e (db c _ _)+_=_;omega
  by_cases tx:r.bh.a7=e
  ·rw[aZ tx]at ra tu;refine .inr (.inr ⟨tu.symm,by omega,?_⟩);unfold gn k1;dsimp only;rw[tx];exact Gf (by omega)
  rw[a6 tx]at ra tu;refine .inl ⟨by omega,fun k=>?_,by omega,fun k=>⟨?_,rfl⟩⟩
  ·unfold gn k1;dsimp only;rw[xM (xN az.1 he.1 tx)];exact k
  obtain⟨cy,bw,fc⟩:=pz.1 k;refine pz.2 ⟨cy,fun a ad=>?_,fc⟩;rcases gV.1 ad with ad | ad
  ·exact bw a ad
  obtain rfl:a=r:=by simpa using ad
  exact tx
 | qC l hk dD aj af=>
  rcases xK l with⟨k,_⟩ | ⟨_,_,_,e1⟩
  ·rw[af]at k;cases k
  have bg:=Mc (e:=e) (m:=(fT l).1) aj;have U:oC e (fT l).1=oC e l:=by rw[e1];rfl
  have ax:jg e (db c (dX c.ay p.a p.b) (fT l).1)=jg e c:=by omega
  refine⟨by rw[ax];exact h.total,fun t gO ar=>?_,fun gO=>⟨(h.Af gO).1,by rw[ax];exact (h.Af gO).2⟩⟩;have hy:=h.token t gO ar;unfold Good at hy ⊢;rw[ax];exact hy
 | token t x cm hk j8 bl aB bq aa qV=>
  simp only[ap,b']at j8;by_cases uU:p.a=e
  ·subst uU;exact h.avp bD bq aa
  exact h.avo he.1 j8.1 uU aa
 | qZ k n x hk aK aB aa=>
  obtain⟨cy,bw,fc⟩:=Gh (x:=x) (n:=n) (e:=e);refine h.worker aa rfl rfl (rv aa rfl (fun q=>?_) (fun q=>?_)) (.inl ⟨cy,fun q=>bw.trans q,rfl,fun q=>⟨agE.trans q,fc⟩⟩)
  ·rw[Gg,ni]at q;rcases q with q | q
   ·exact .inl q
   exact .inr (l9.2 ⟨n,cG aK,q⟩)
  unfold nc at q ⊢;rw[l9]at q ⊢;obtain⟨m,hm,q⟩:=q;refine⟨m,?_,q⟩;change m∈cutAt c.news k at hm;unfold cutAt at hm;rcases gV.1 hm with hm | hm
  ·exact rN hm
  exact ur hm
end Go.Proofs.YtdchjefneblpgaaGreat
namespace Go.Proofs.YtdchjefneblpgaaGreat
open Go.Sx Go.RowKit Go.Proofs.Tryz
def sF(r:aE):Bool:=!eD r||r.op != 0||r.bh.dh != 0
def y9(g:b0)(xs:List aE)(w e:Int):List aE:=xs.filter fun r=>r.bh.a7==e&&eJ r.key g.aq==w
def pk(g:b0)(xs:List aE)(w:Int)(n:Nat):List aE:=(List.range n).flatMap fun e=>y9 g xs w (e:Nat)
def own(g:b0)(xs:List aE)(w:Int):List aE:=pk g xs w 4
def nS(xs:List aE):aL:=⟨[],[],xs,[],List.replicate 4 0,List.replicate 4 false,List.replicate 4 false,[]⟩
def l5(cap:Int):bt:=⟨gr cap 1 4,[],gr cap 1 4,0,0,0⟩
def CT:bQ:=⟨false,0,0,false,false⟩
def pA(g:b0)(xs:List aE)(n:Nat):List aL:=(List.range n).map fun w=>nS (own g xs (w:Nat))
def fu(g:b0)(xs:List aE):aU:=⟨g,pA g xs g.aq.toNat,List.replicate (g.aq.toNat*g.aq.toNat) (l5 g.cap),List.replicate 4 CT,[]⟩
def T3:aU:=⟨⟨[],0,0⟩,[],[],[],[]⟩
def mQ(g:b0)(xs:List aE):Bool:=eo g&&decide (xs.length<=20)&&!xs.any sF
def zK(g:b0)(xs:List aE):aU×Bool:=if mQ g xs then (fu g xs,true) else (T3,false)
theorem T4(g:b0)(xs:List aE)(w:Int)(n:Nat):pk g xs w (n+1)=pk g xs w n++y9 g xs w (n:Nat):=by
 simp[pk,List.range_succ]
theorem T5(g:b0)(xs:List aE)(w:Int)(n:Nat):(pk g xs w n).length<=n*xs.length:=by
 have h:=zH (fun e:Nat=>y9 g xs w (e:Nat)) xs.length (fun _=>qq _ _) (List.range n);rwa[vZ]at h
variable{xs:List aE}
theorem T6{g:b0}(aj:xs.length<=20)(w:Int):(own g xs w).length<=80:=by
 have:=T5 g xs w 4;unfold own;omega
theorem agH{g:b0}(aj:xs.length<=20)(w:Int){n:Nat}(aK:n<4):(pk g xs w n).length<=60:=by
 have:=T5 g xs w n;have:n*xs.length<=3*20:=Nat.mul_le_mul (by omega) aj;omega
theorem agI(g:b0)(xs:List aE)(n:Nat):pA g xs (n+1)=pA g xs n++[nS (own g xs (n:Nat))]:=by
 simp[pA,List.range_succ]
theorem Cz(g:b0)(xs:List aE)(n:Nat):(pA g xs n).length=n:=by simp[pA]
theorem agJ{α:Type}{f:α->List D}{x:α}{m:Nat}:(List.replicate m x).map f++[f x]=(List.replicate (m+1) x).map f:=by
 rw[List.replicate_succ',jV];rfl
theorem agK(cap:Int):aw 126 [.one (I cap)] [.agg (l5 cap).e]:=aiK ⟨Fk cap 1 4,ae⟩
theorem agL(aj:xs.length<=1000):aw 124 [.one (.J 5 (xs.map aE.e))] [.agg (nS xs).e]:=
 aiL ⟨nl (by simp;omega),kY (by simp;omega),cd _ aE.flat _,by omega,by omega,by decide,by omega,by omega,by omega,by decide,by omega,by omega,by omega,by decide,by omega,ae⟩
theorem agM(g:b0)(xs:List aE)(w:Int)(aK:1<=g.aq/\g.aq<=4)(aj:xs.length<=20):aw 125 [.agg g.e,.one (.J 5 (xs.map aE.e)),.one (I w)] [.one (.J 5 ((own g xs w).map aE.e))]:=by
 have lZ:=fun (e:Nat) (he:e<4) (acc:List aE) (ad:acc.length<=100)=>eR (P:=prog) (c:=(av f125 1)) (cL 2) xs.length (fun i:Nat=>ub (g.nodes.map Node.e) g.aq g.cap (xs.map aE.e) w e i ((acc++(xs.take i).filter fun r=>r.bh.a7==(e:Int)&&eJ r.key g.aq==w).map aE.e)) (fun i hi=>by
  obtain⟨r,az⟩:=dm hi;have bg:((xs.take i).filter fun r=>r.bh.a7==(e:Int)&&eJ r.key g.aq==w).length<=20:=by
   have:=qq (fun r:aE=>r.bh.a7==(e:Int)&&eJ r.key g.aq==w) (xs.take i);have:=Gd i xs;omega
  rw[zD _ az];generalize (xs.take i).filter (fun r=>r.bh.a7==(e:Int)&&eJ r.key g.aq==w)=fg at*;have ou:=SN r.key g.aq (by omega);cases h1:(r.bh.a7==(e:Int)) with
  | false=>
   rw[Bool.false_and,a6 (by decide),jX];exact aiF ⟨b4 hi,bH,bL hi,bI aE.e az,h1,du hi (by omega),ae⟩
  | true=>
   cases U:(eJ r.key g.aq==w) with
   | false=>
    rw[Bool.and_false,a6 (by decide),jX];exact aiE ⟨b4 hi,bH,bL hi,bI aE.e az,h1,bH,bL hi,bI aE.e az,ou,U,du hi (by omega),ae⟩
   | true=>
    rw[uu,aZ rfl,<-pL,Ff];exact aiD ⟨b4 hi,bH,bL hi,bI aE.e az,h1,bH,bL hi,bI aE.e az,ou,U,bH,bL hi,bI aE.e az,by simp;omega,by simp;omega,dY (aE.flat r),du hi (by omega),ae⟩) (aiG ⟨ec,ae⟩)
 have fS:=eR (P:=prog) (c:=(av f125 0)) (cL 0) 4 (fun n:Nat=>CL (g.nodes.map Node.e) g.aq g.cap (xs.map aE.e) w n ((pk g xs w n).map aE.e)) (fun n aK=>by
  have:=lZ n aK (pk g xs w n) (by have:=agH (g:=g) aj w aK;omega);rw[k6,List.take_zero,List.filter_nil,jX]at this;rw[T4];exact aiH ⟨dr (by omega),this,⟨by omega,by omega⟩,ae⟩) (aiI ⟨ee (by omega),ae⟩)
 exact aiJ ⟨fS,ae⟩
theorem Me{g:b0}(h:mQ g xs=false):zK g xs=(T3,false):=by unfold zK;rw[h];rfl
theorem T7{g:b0}(h:mQ g xs=true):zK g xs=(fu g xs,true):=by unfold zK;rw[h];rfl
theorem agN(g:b0)(xs:List aE)(aj:xs.length<=20):
  (xs.any sF=false/\c6 prog (av f14 0) (rE (xs.map aE.e) 0 0 0 (g.nodes.map Node.e) g.aq g.cap) (.exit 0) (LL (xs.map aE.e) 0 0 (g.nodes.map Node.e) g.aq g.cap))\/
  (xs.any sF=true/\c6 prog (av f14 0) (rE (xs.map aE.e) 0 0 0 (g.nodes.map Node.e) g.aq g.cap) .ret (zQ false 0 0)):=by
 have l:=hv (P:=prog) (c:=(av f14 0)) xs sF (fun i=>rE (xs.map aE.e) i 0 0 (g.nodes.map Node.e) g.aq g.cap) (e1:=.ret) (e2:=.exit 0) (X:=fun _ _=>zQ false 0 0) fl (cL 0)
  (fun i a ad h=>by
   simp only[sF,fR]at h;have hi:=aX ad;exact aiv ⟨b4 hi,bH,bL hi,bI aE.e ad,tW a,h.1.1,bH,bL hi,bI aE.e ad,h.1.2,bH,bL hi,bI aE.e ad,h.2,du hi (by omega),ae⟩)
  (fun i a ad h=>by
   have hi:=aX ad;have fP:=tW a;unfold sF at h;cases h1:(!eD a) with
   | true=>exact aji ⟨b4 hi,bH,bL hi,bI aE.e ad,fP,h1,ae⟩
   | false=>
    cases U:(a.op != 0) with
    | true=>exact ajj ⟨b4 hi,bH,bL hi,bI aE.e ad,fP,h1,bH,bL hi,bI aE.e ad,U,ae⟩
    | false=>
     rw[h1,U,jY,jY]at h;exact aiu ⟨b4 hi,bH,bL hi,bI aE.e ad,fP,h1,bH,bL hi,bI aE.e ad,U,bH,bL hi,bI aE.e ad,h,ae⟩)
  (aiw ⟨ec,ae⟩)
 rcases l with⟨_,_,h1,U⟩ | ⟨i,a,_,_,_,_,h1,U⟩
 ·exact .inl ⟨h1,U⟩
 exact .inr ⟨h1,U⟩
theorem agO(g:b0)(xs:List aE)(aK:1<=g.aq/\g.aq<=4)(aj:xs.length<=20):
  c6 prog (av f14 1) (zR (xs.map aE.e) 0 (g.nodes.map Node.e) g.aq g.cap [] [] ((List.replicate 4 CT).map bQ.e) 0 0 (g.nodes.map Node.e) g.aq g.cap) (.exit 2)
   (LM (g.nodes.map Node.e) g.aq g.cap ((pA g xs g.aq.toNat).map aL.e) ((List.replicate (g.aq.toNat*g.aq.toNat) (l5 g.cap)).map bt.e) ((List.replicate 4 CT).map bQ.e) 0 0):=by
 obtain⟨n,je⟩:∃n:Nat,g.aq=n:=⟨g.aq.toNat,by omega⟩
 have A2:n<=4:=by omega
 have uZ:=fun (w:Nat) (m:Nat) (W T:List (List D)) (hm:m<=16)=>eR (P:=prog) (c:=(av f14 2)) (cL 4) n (fun k:Nat=>CK (xs.map aE.e) w k (g.nodes.map Node.e) g.aq g.cap W ((List.replicate (m+k) (l5 g.cap)).map bt.e) T 0 0 (g.nodes.map Node.e) g.aq g.cap) (fun k hk=>by
  rw[<-ye,<-agJ];exact aiy ⟨dr (by omega),agK g.cap,by simp;omega,by simp;omega,⟨by omega,by omega⟩,ae⟩) (aiz ⟨ee (by omega),ae⟩)
 have lZ:=eR (P:=prog) (c:=(av f14 1)) (cL 2) n (fun w:Nat=>zR (xs.map aE.e) w (g.nodes.map Node.e) g.aq g.cap ((pA g xs w).map aL.e) ((List.replicate (w*n) (l5 g.cap)).map bt.e) ((List.replicate 4 CT).map bQ.e) 0 0 (g.nodes.map Node.e) g.aq g.cap) (fun w hw=>by
  have o8:=Cz g xs w;have hm:w*n<=3*4:=Nat.mul_le_mul (by omega) A2;rw[agI,Ff,show (w+1)*n=w*n+n by rw[fX,Nat.one_mul]];exact aiA ⟨dr (by omega),agM g xs w aK aj,agL (by have:=T6 (g:=g) aj (w:Nat);omega),by simp[o8];omega,by simp[o8];omega,uZ w (w*n) _ _ (by omega),⟨by omega,by omega⟩,ae⟩) (aiB ⟨ee (by omega),ae⟩)
 rw[show ((0:Nat)*n)=0 by omega]at lZ;rw[je,nd];rw[je]at lZ;exact lZ
theorem agP(g:b0)(xs:List aE)(ar:g.sz<=8388608):aw 14 [.agg g.e,.one (.J 5 (xs.map aE.e))] [.agg (zK g xs).1.e,.one (B (zK g xs).2)]:=by
 have yu:=Fu g ar;cases h1:eo g with
 | false=>
  rw[h1]at yu;rw[Me (by unfold mQ;rw[h1];rfl)];exact ajg ⟨yu,rfl,ae⟩
 | true=>
 rw[h1]at yu;by_cases aj:xs.length<=20
 case neg=>
  rw[Me (by unfold mQ;rw[oN aj,Bool.and_false];rfl)];exact ajh ⟨yu,rfl,dr (by simp;omega),ae⟩
 rcases agN g xs aj with⟨U,l⟩ | ⟨U,l⟩
 ·rw[T7 (by unfold mQ;rw[h1,U,nh aj];rfl)];exact aiC ⟨yu,rfl,ee (by simp;omega),l,Uh g ar,by omega,by omega,by decide,by omega,agO g xs (ii h1) aj,ae⟩
 rw[Me (by unfold mQ;rw[U];simp)];exact aix ⟨yu,rfl,ee (by simp;omega),l,ae⟩
end Go.Proofs.YtdchjefneblpgaaGreat
namespace Go.Proofs.YtdchjefneblpgaaGreat
open Go.Sx Go.RowKit Go.Proofs.Tryz
theorem Gj{α:Type}{f:α->Nat}{k:Nat}:∀{xs:List α},(∀x∈xs,f x<=k)->(xs.map f).sum<=xs.length*k
 | [],_=>by simp
 | a::xs,h=>by
  have h1:=h a (by simp);have U:=Gj (f:=f) (k:=k) (xs:=xs) (fun x aa=>h x (by simp[aa]));simp only[k8,rO,dJ,fX,Nat.one_mul];omega
theorem CA{g:b0}{xs:List aE}:mQ g xs=true<->eo g=true/\xs.length<=20/\xs.any sF=false:=by
 simp only[mQ,b8,b',gy,and_assoc]
theorem agQ{g:b0}{xs:List aE}(h:mQ g xs=true):(fu g xs).sz<=g.sz+1000:=by
 obtain⟨h1,U,_⟩:=CA.1 h;have aK:=ii h1;obtain⟨n,je⟩:∃n:Nat,g.aq=n:=⟨g.aq.toNat,by omega⟩
 have a:=Gj (f:=aL.sz) (k:=92) (xs:=pA g xs n) (fun x aa=>by
  simp only[pA,jZ]at aa;obtain⟨w,_,rfl⟩:=aa;have:=T6 (g:=g) U (w:Nat);simp only[nS,aL.sz,bY,List.length_replicate];omega)
 have b:=Gj (f:=bt.sz) (k:=0) (xs:=List.replicate (n*n) (l5 g.cap)) (fun x aa=>by
  rw[List.eq_of_mem_replicate aa];simp[l5,bt.sz])
 have hm:n*n<=4*4:=Nat.mul_le_mul (by omega) (by omega);simp only[fu,aU.sz,iV,je,nd,List.length_replicate,bY,Cz]at a b ⊢;omega
theorem agR(g:b0)(xs:List aE):fF (fu g xs):=by
 intro l aj;have:=List.eq_of_mem_replicate aj;subst this;simp[l5]
end Go.Proofs.YtdchjefneblpgaaGreat
namespace Go.Proofs.YtdchjefneblpgaaGreat
open Go.Sx Go.RowKit Go.Proofs.Tryz
structure j1 (c:aU):Prop where
 w:∀(i:Nat) x,c.aq[i]?=some x->(∀r∈x.queue,eJ r.key c.ay.aq=i)/\∀r∈x.bZ,eJ r.key c.ay.aq=i
 l:∀(i:Nat) l,c.bK[i]?=some l->∀r∈l.queue,eJ r.key c.ay.aq=(i:Int).tmod c.ay.aq
variable{c:aU}
theorem j1.ok(h:j1 c)(aK:1<=c.ay.aq):SO c=true:=by
 unfold SO;rw[zg (p:=HK c.ay.aq) fun i x aa=>?_,zg (p:=HJ c.ay.aq) fun i l aj=>?_]
 ·rfl
 ·simp only[HJ,fR,lr,ff,BF,bne_iff_ne,fM,Decidable.not_not];exact⟨by omega,h.l i l aj⟩
 simp only[HK,fR,ff,BF,bne_iff_ne,fM,Decidable.not_not];exact h.w i x aa
theorem j1.setW{c:aU}{i:Int}{y:aL}(h:j1 c)(bn:(∀r∈y.queue,eJ r.key c.ay.aq=i.toNat)/\∀r∈y.bZ,eJ r.key c.ay.aq=i.toNat):j1 (setW c i y):=
 ⟨fun j x aa=>by
  rcases vG aa with⟨rfl,rfl⟩ | ⟨_,aa⟩
  ·exact bn
  exact h.w j x aa,h.l⟩
theorem j1.db{c:aU}{i:Int}{m:bt}(h:j1 c)(hm:∀r∈m.queue,eJ r.key c.ay.aq=(i.toNat:Int).tmod c.ay.aq):j1 (db c i m):=
 ⟨h.w,fun j l aj=>by
  rcases vG aj with⟨rfl,rfl⟩ | ⟨_,aj⟩
  ·exact hm
  exact h.l j l aj⟩
variable{i:Int}{x:aL}
theorem j1.at(h:j1 c)(aa:b3 c i=some x):(∀r∈x.queue,eJ r.key c.ay.aq=i.toNat)/\∀r∈x.bZ,eJ r.key c.ay.aq=i.toNat:=h.w _ x (eK aa).2.2
theorem j1.link{l:bt}(h:j1 c)(aj:eB c i=some l):∀r∈l.queue,eJ r.key c.ay.aq=(i.toNat:Int).tmod c.ay.aq:=h.l _ l (iT aj).2.2
theorem j1.cM{i:Int}{u:bQ}(h:j1 c):j1 (cM c i u):=⟨h.w,h.l⟩
variable{g:b0}
theorem Gk{a b:Int}(h:0<=dX g a b):ap a 0 (g.aq-1)=true/\ap b 0 (g.aq-1)=true:=by
 cases af:(ap a 0 (g.aq-1)&&ap b 0 (g.aq-1)) with
 | true=>simpa using af
 | false=>rw[t' af]at h;omega
variable{e:Int}
theorem j1.dx{t:bQ}(h:j1 c)(aa:b3 c t.place=some x):j1 (dx c e t x).1:=by
 have aA:=h.at aa;rcases qh c e t x with⟨_,U⟩ | ⟨_,_,⟨_,U⟩ | ⟨_,_,U⟩ | ⟨_,bl,_,U⟩ | ⟨_,_,_,U⟩⟩
 ·rw[U];exact h
 ·rw[U];exact h.cM.setW aA
 ·rw[U];exact h.cM.setW aA
 ·rw[U];have aW:t.place=0:=by have:=(eK aa).1;omega
  rw[aW]at aA;have bw:=(h.cM (i:=e) (u:=⟨false,t.place,t.sum,t.bV,t.ca⟩)).setW (i:=0) (y:=told x e (t.ca||x.bm.getD e.toNat false)) aA;exact⟨bw.w,bw.l⟩
 rw[U];exact⟨h.w,h.l⟩
theorem j1.step{d:aU}{p:b9}(h:j1 c)(bD:cq c=true)(st:Step c p d):j1 d:=by
 have aK:=ii (e7.1 bD).1;cases st with
 | work x r q hk aa ai aA=>
  have:=h.at aa;rw[aA]at this;exact h.setW ⟨fun a ad=>this.1 a (fw _ ad),this.2⟩
 | input x r t hk aa ai aA hi=>
  have:=(h.at aa).2;rw[hi]at this;exact h.setW ⟨fun a ad=>this a (by simp only[List.mem_singleton]at ad;rw[ad];exact eY ..),fun a ad=>this a (fw _ ad)⟩
 | eW x r t hk aa ai aN=>
  have:=h.at aa;have hp:=(eK aa).1;refine h.setW ⟨fun a ad=>?_,this.2⟩;rcases gV.1 ad with ad | ad
  ·exact this.1 a ad
  obtain rfl:a=r:=by simpa using ad
  omega
 | send x r t l hk aa ai aN aj hsend=>
  obtain⟨_,_,_,e1⟩:=Cu hsend;obtain⟨g1,g2⟩:=Gk (iT aj).1;obtain⟨_,_,_,_,u4⟩:=vE aK g1 g2;have hp:=(iT aj).1;have hw:=h.at aa;refine (h.db (i:=dX c.ay p.a (eJ r.key c.ay.aq)) (m:=(ei l r).1) fun a ad=>?_).setW (c:=Go.Proofs.YtdchjefneblpgaaGreat.db c _ _) hw;rw[e1]at ad;rcases gV.1 ad with ad | ad
  ·exact h.link aj a ad
  obtain rfl:a=r:=by simpa using ad
  rw[Cp aj,(vE aK g1 g2).1,u4]
 | take l x hk dD aj aa bq=>
  obtain⟨_,r,q,aA,e2,e1⟩:=xJ bq;obtain⟨g1,g2⟩:=Gk (iT aj).1;obtain⟨iz,_,_,_,u4⟩:=vE aK g1 g2;have mh:=h.link aj;rw[aA,Cp aj,iz,u4]at mh;have ao:=(eK aa).1;refine (h.db (i:=dX c.ay p.a p.b) (m:=(dI l).1) fun a ad=>?_).setW (c:=Go.Proofs.YtdchjefneblpgaaGreat.db c _ _) ⟨fun a ad=>?_,(h.at aa).2⟩
  ·rw[e1]at ad;rw[Cp aj,iz,u4];exact mh a (fw _ ad)
  rcases gV.1 ad with ad | ad
  ·exact (h.at aa).1 a ad
  obtain rfl:a=_:=by simpa using ad
  rw[e2];have:=mh r (eY ..);change eJ r.key c.ay.aq=_;omega
 | qC l hk dD aj af=>
  rcases xK l with⟨k,_⟩ | ⟨_,_,_,e1⟩
  ·rw[af]at k;cases k
  refine h.db fun a ad=>?_
  rw[e1]at ad;exact h.link aj a ad
 | token t x cm hk j8 bl aB bq aa qV=>exact h.dx aa
 | qZ k n x hk aK aB aa=>
  have aA:=h.at aa;have:=h.setW (i:=p.a) (y:=ea x n) (by
   unfold ea;split<;>exact aA)
  exact⟨this.w,this.l⟩
structure iY (S:Int) (c:aU):Prop where
 bM:∀x∈c.aq,∀k:Nat,-S<=x.bM.getD k 0/\x.bM.getD k 0<=S
 eF:∀l∈c.bK,l.eF<=S
 vQ:∀t∈c.tokens,t.going=true->t.sum+200000*t.place<=600000/\-600000<=t.sum-200000*t.place
variable{S:Int}
theorem T8{xs:List Int}{f d:Int}(aB:-1<=d/\d<=1)(h:∀k:Nat,-S<=xs.getD k 0/\xs.getD k 0<=S)(k:Nat):-(S+1)<=(mO xs f d).getD k 0/\(mO xs f d).getD k 0<=S+1:=by
 unfold mO;have h1:=h f.toNat;have U:=h k;by_cases bg:f.toNat=k
 ·subst bg;by_cases aj:f.toNat<xs.length
  ·rw[Gf aj];omega
  rw[List.set_eq_of_length_le (by omega)];omega
 rw[xM bg];omega
theorem iY.mono{T:Int}(h:iY S c)(gO:S<=T):iY T c:=
 ⟨fun x aa k=>by have:=h.bM x aa k;omega,fun l aj=>by have:=h.eF l aj;omega,h.vQ⟩
theorem iY.setW{c:aU}{i:Int}{y:aL}(h:iY S c)(bn:∀k:Nat,-S<=y.bM.getD k 0/\y.bM.getD k 0<=S):iY S (setW c i y):=
 ⟨fun x aa=>by
  rcases h8 aa with aa | rfl
  ·exact h.bM x aa
  exact bn,h.eF,h.vQ⟩
theorem iY.db{c:aU}{i:Int}{m:bt}(h:iY S c)(hm:m.eF<=S):iY S (db c i m):=
 ⟨h.bM,fun l aj=>by
  rcases h8 aj with aj | rfl
  ·exact h.eF l aj
  exact hm,h.vQ⟩
theorem iY.cM{i:Int}{u:bQ}(h:iY S c)(hu:u.going=true->u.sum+200000*u.place<=600000/\-600000<=u.sum-200000*u.place):iY S (cM c i u):=
 ⟨h.bM,h.eF,fun t bq=>by
  rcases h8 bq with bq | rfl
  ·exact h.vQ t bq
  exact hu⟩
theorem iY.at(h:iY S c)(aa:b3 c i=some x):∀k:Nat,-S<=x.bM.getD k 0/\x.bM.getD k 0<=S:=h.bM x (cG (eK aa).2.2)
theorem iY.dx{t:bQ}(h:iY S c)(hz:S<=200000)(bD:cq c=true)(bq:hE c e=some t)(aa:b3 c t.place=some x):iY S (dx c e t x).1:=by
 have hw:=L8 bD;have ao:=h.at aa;have aak:=h.vQ t (cG (xH bq).2.2);rcases qh c e t x with⟨_,U⟩ | ⟨_,_,⟨_,U⟩ | ⟨ar,bl,U⟩ | ⟨_,bl,_,U⟩ | ⟨_,_,_,U⟩⟩
 ·rw[U];exact h
 ·rw[U];exact (h.cM fun _=>⟨by dsimp only;omega,by dsimp only;omega⟩).setW ao
 ·rw[U];have ax:=ao e.toNat;have aF:=aak ar;exact (h.cM fun _=>⟨by dsimp only;omega,by dsimp only;omega⟩).setW ao
 ·rw[U];have:=(h.cM (i:=e) (u:=⟨false,t.place,t.sum,t.bV,t.ca⟩) (fun k=>by cases k)).setW (i:=0) (y:=told x e (t.ca||x.bm.getD e.toNat false)) ao;exact⟨this.bM,this.eF,this.vQ⟩
 rw[U];exact h.cM fun k=>by cases k
theorem iY.step{d:aU}{p:b9}(h:iY S c)(hz:S<200000)(bD:cq c=true)(st:Step c p d):iY (S+1) d:=by
 have gM:=h.mono (show S<=S+1 by omega);cases st with
 | work x r q hk aa ai aA=>have ao:=gM.at aa;exact gM.setW ao
 | input x r t hk aa ai aA hi=>have ao:=gM.at aa;exact gM.setW ao
 | eW x r t hk aa ai aN=>have ao:=gM.at aa;exact gM.setW ao
 | send x r t l hk aa ai aN aj hsend=>
  obtain⟨_,_,_,e1⟩:=Cu hsend;have:=h.eF l (cG (iT aj).2.2);have ao:=T8 (f:=r.bh.a7) (d:=1) (by omega) (h.at aa);exact (gM.db (by rw[e1];dsimp only;omega)).setW ao
 | take l x hk dD aj aa bq=>
  obtain⟨_,r,q,aA,e2,e1⟩:=xJ bq;have:=h.eF l (cG (iT aj).2.2);have ao:=T8 (f:=(dI l).2.1.bh.a7) (d:=-1) (by omega) (h.at aa);exact (gM.db (by rw[e1];dsimp only;omega)).setW ao
 | qC l hk dD aj af=>
  rcases xK l with⟨k,_⟩ | ⟨_,_,_,e1⟩
  ·rw[af]at k;cases k
  have:=h.eF l (cG (iT aj).2.2);exact gM.db (by rw[e1];dsimp only;omega)
 | token t x cm hk j8 bl aB bq aa qV=>exact (h.dx (by omega) bD bq aa).mono (by omega)
 | qZ k n x hk aK aB aa=>
  have ao:=gM.at aa;have:=gM.setW (i:=p.a) (y:=ea x n) (by
   unfold ea;split<;>exact ao)
  exact⟨this.bM,this.eF,this.vQ⟩
theorem agS(p:b9)(bD:cq c=true)(ao:iY S c)(hz:S<1000000):cq (cY c p).1=true:=by
 have aK:=ii (e7.1 bD).1;have key:∀{i:Int} {x:aL},b3 c i=some x->∀(k:Nat) (d:Int),-1<=d/\d<=1->ap (x.bM.getD k 0+d) (-1000000) 1000000=true:=fun aa k d aB=>by
  have:=ao.at aa k;simp only[ap,b'];omega
 unfold cY;split
 ·exact UD bD
 split
 ·exact UE bD
 split
 ·unfold iS;rw[aZ bD];cases aa:b3 c p.a with
  | none=>exact bD
  | some x=>
   dsimp only;cases ai:x.cp with
   | nil=>exact bD
   | cons r t=>
    dsimp only;unfold rq;split
    ·exact UB bD aa ai
    rename_i aN;cases aj:eB c (dX c.ay p.a (eJ r.key c.ay.aq)) with
    | none=>exact bD
    | some l=>
     dsimp only;split
     ·rename_i h;exact (UA bD aa ai (Co _ aK.1) aN aj h).trans (key aa _ 1 (by omega))
     exact bD
 split
 ·unfold jM;split
  ·cases aj:eB c (dX c.ay p.a p.b) with
   | none=>exact bD
   | some l=>
    cases aa:b3 c p.b with
    | none=>exact bD
    | some x=>
     dsimp only;split
     ·rename_i h;exact (UC bD aj aa h).trans (key aa _ (-1) (by omega))
     exact bD
  exact bD
 split
 ·exact UF bD
 split
 ·exact UH bD
 split
 ·exact UI bD
 exact bD
structure km (S:Int) (c:aU):Prop where
 ok:cq c=true
 owns:j1 c
 s3:iY S c
 inv:∀e:Int,0<=e/\e<=3->Inv e c
theorem km.mono{T:Int}(h:km S c)(gO:S<=T):km T c:=⟨h.ok,h.owns,h.s3.mono gO,h.inv⟩
theorem km.step(h:km S c)(hz:S<200000)(p:b9):km (S+1) (cY c p).1:=by
 have bD:=agS p h.ok h.s3 (by omega);rcases xL c p with⟨_,U⟩ | ⟨_,_,st⟩
 ·rw[U];exact h.mono (by omega)
 exact⟨bD,h.owns.step h.ok st,h.s3.step hz h.ok st,fun e he=>(h.inv e he).step he h.ok st⟩
theorem km.run{c:aU}:∀(l:List b9) {S:Int} {c:aU},km S c->S+l.length<=200000->km (S+l.length) (cS c l).1
 | [],S,c,h,_=>by simpa[cS]using h
 | p::l,S,c,h,hz=>by
  simp only[dJ]at hz ⊢;have:=km.run (c:=c) l (h.step (by omega) p) (by omega);simp only[cS];rw[show S+((l.length+1:Nat):Int)=S+1+l.length by omega];exact this
theorem agj(he:0<=e/\e<=3)(hz:S<=1000000):∀(xs:List aL) (n:Int),(∀x∈xs,x.bM.length=4/\-S<=e0 e x/\e0 e x<=S)->xs.length<=1000->-1000000000000+(xs.length:Int)*1000000<=n/\n<=1000000000000-(xs.length:Int)*1000000->
  xs.foldl (wj e) n=n+(xs.map (e0 e)).sum:=by
 intro xs;induction xs with
 | nil=>intro n _ _ _;rw[List.foldl_nil,List.map_nil,List.sum_nil,Int.add_zero]
 | cons x xs aaL=>
  intro n h aj aK;rw[dJ]at aj aK;obtain⟨h1,U,ax⟩:=h x (eY ..);have dk:=aaL (n+e0 e x) (fun y bn=>h y (fw _ bn)) (by omega) (by omega);have aB:wj e n x=n+e0 e x:=by
   unfold wj;rw[aZ (by simp only[ap,b'];omega)];unfold Wj;rw[IntKind.wrap_i64];unfold e0 at*;omega
  rw[List.foldl_cons,aB,dk,k8,rO];omega
theorem agk(h:cq c=true)(ao:iY S c)(hz:S<=1000000)(he:0<=e/\e<=3):BE c e=gG e c c.aq.length:=by
 have hw:=L8 h;unfold BE gG;rw[agj he hz c.aq 0 (fun x aa=>?_) (by omega) (by omega),k6,Int.zero_add];obtain⟨i,hi⟩:=List.getElem?_of_mem aa;have a':=jr (i:=i) h (x:=x) (by unfold b3;rw[aZ (by omega)];simpa using hi);exact⟨(Cx a').1,ao.bM x aa e.toNat⟩
theorem km.Yg(h:km S c):c.bK.all vB=true:=by
 rw[fW];intro l aj;obtain⟨i,hi⟩:=List.getElem?_of_mem aj;have ao:=xG (e7.1 h.ok).2.2.2.2.2.1 hi;obtain⟨h1,_⟩:=oE.1 ao;obtain⟨_,ax,aF,aQ,_⟩:=nR.1 h1;unfold vB;rw[ax,aF,nh aQ];rfl
theorem Gl{xs:List aE}{w:Int}{r:aE}(h:r∈own g xs w):r∈xs/\eJ r.key g.aq=w:=by
 simp only[own,pk,kF,y9,List.mem_filter,b8,dp]at h;obtain⟨_,_,h1,_,U⟩:=h;exact⟨h1,U⟩
theorem Gm{xs:List aE}{n i:Nat}(h:(pA g xs n)[i]?=some x):x=nS (own g xs (i:Nat))/\i<n:=by
 have hi:=aX h;rw[Cz]at hi;unfold pA at h;rw[dG,List.getElem?_range hi]at h;exact⟨(eQ h).symm,hi⟩
