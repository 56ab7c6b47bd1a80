import Derived.Test.YtdchjefneblpgaaGreatP90
import Derived.Test.YtdchjefneblpgaaGreatP43
set_option linter.unusedVariables false
set_option linter.unusedSimpArgs false
namespace Go.Proofs.YtdchjefneblpgaaGreat
open Go.Sx Go.RowKit Go.Proofs.Tryz
def fB(e:Int)(x:aN):Int:=x.bP.getD e.toNat 0
def gr(e:Int)(x:aN):Bool:=x.bV.getD e.toNat false
def h9(e:Int)(x:aN):Bool:=x.bl.getD e.toNat false
def hc(e:Int)(c:aV)(k:Nat):Int:=((c.ao.take k).map (fB e)).sum
def jl(e:Int)(c:aV):Nat:=da (pQ e) c.bQ
def quiet(e:Int)(c:aV):Prop:=(∀x∈c.ao,kH x e=true)/\jl e c=0
def Good(e:Int)(c:aV)(t:bO):Prop:=
 ((∀(i:Nat) x,t.place<i->c.ao[i]?=some x->kH x e=true/\(h9 e x=true->t.b7=true))/\hc e c (t.place+1).toNat+t.sum=jl e c)\/
 0<hc e c (t.place+1).toNat+t.sum\/(∃(i:Nat) (x:aN),(i:Int)<=t.place/\c.ao[i]?=some x/\gr e x=true)\/t.bV=true
structure Inv (e:Int) (c:aV):Prop where
 total:hc e c c.ao.length=jl e c
 token:∀t,h4 c e=some t->t.going=true->Good e c t
 Bl:(oc c e||nJ c e)=true->quiet e c
theorem A2{α:Type}(f:α->Int){y:α}(x:α):∀{xs:List α} {i k:Nat},xs[i]?=some y->(((xs.set i x).take k).map f).sum=((xs.take k).map f).sum+(if i<k then f x-f y else 0)
 | [],_,_,h=>by simp at h
 | a::xs,0,0,h=>by simp
 | a::xs,0,k+1,h=>by
  grind
 | a::xs,i+1,0,h=>by simp
 | a::xs,i+1,k+1,h=>by
  have dL:=A2 f x (xs:=xs) (i:=i) (k:=k) (by simpa using h);grind
variable{i j:Nat}
theorem xO{α:Type}{xs:List α}{y z:α}(h:(xs.set i y)[j]?=some z):(j=i/\z=y)\/(j≠i/\xs[j]?=some z):=by
 grind
theorem mP{α:Type}{xs:List α}{x y:α}(h:xs[i]?=some x):(xs.set i y)[i]?=some y:=by
 grind
theorem A3{α:Type}{xs:List α}{y z:α}(h:xs[j]?=some z)(a8:j≠i):(xs.set i y)[j]?=some z:=by
 grind
theorem A4{α:Type}{xs:List α}{x:α}(h:xs[i]?=some x):xs.set i x=xs:=by
 grind[a6,gX,List.set_getElem_self]
variable{e:Int}{c:aV}{x:aN}
theorem Inv.worker{i:Int}{d:aV}{y:aN}(h:Inv e c)(aa:b0 c i=some x)(hw:d.ao=c.ao.set i.toNat y)(bG:h4 d e=h4 c e)
  (aen:(oc d e||nJ d e)=true->(oc c e||nJ c e)=true)
  (al:(fB e y=fB e x/\(gr e x=true->gr e y=true)/\jl e d=jl e c/\(kH x e=true->kH y e=true/\h9 e y=h9 e x))\/
   (kH x e=false/\fB e y=fB e x+1/\(gr e x=true->gr e y=true)/\jl e d=jl e c+1)\/
   (jl e c=jl e d+1/\fB e y=fB e x-1/\gr e y=true)):Inv e d:=by
 obtain⟨i0,i1,i2⟩:=dU aa;have hlen:d.ao.length=c.ao.length:=by grind
 have zB:∀k,hc e d k=hc e c k+(if i.toNat<k then fB e y-fB e x else 0):=fun k=>by
  grind[hc,A2,fB]
 have qs:x∈c.ao:=cB i2;refine⟨?_,fun t jG ar=>?_,fun jG=>?_⟩
 ·rw[zB,hlen,bh i1,h.total];grind
 ·have hB:=h.token t (bG▸jG) ar;unfold Good at hB ⊢;rw[zB];have xf:(gr e x=true->gr e y=true)->(∃(j:Nat) (z:aN),(j:Int)<=t.place/\c.ao[j]?=some z/\gr e z=true)->∃(j:Nat) (z:aN),(j:Int)<=t.place/\d.ao[j]?=some z/\gr e z=true:=by
   rintro aq ⟨j,z,g1,g2,g3⟩;by_cases a8:j=i.toNat
   ·grind[mP]
   exact⟨j,z,g1,by grind,g3⟩
  rcases al with⟨h1,U,aA,aI⟩ | ⟨h1,U,aA,aI⟩ | ⟨h1,U,aA⟩
  ·rcases hB with⟨fc,FC⟩ | g | g | g
   ·refine .inl ⟨fun j z a8 aL=>?_,?_⟩
    ·grind[xO]
    grind
   ·grind
   ·grind
   grind
  ·rcases hB with⟨fc,FC⟩ | g | g | g
   ·have hle:¬t.place<i.toNat:=fun bM=>by
     grind
    omega
   ·grind
   ·grind
   grind
  by_cases hle:(i.toNat:Int)<=t.place
  ·grind[mP]
  rw[bq (by omega)];rcases hB with⟨_,FC⟩ | g | ⟨j,z,g1,g2,g3⟩ | g
  ·grind
  ·grind
  ·exact .inr (.inr (.inl ⟨j,z,g1,by grind,g3⟩))
  grind
 obtain⟨q1,eP⟩:=h.Bl (aen jG);have hp:=q1 x qs;rcases al with⟨_,_,aA,aI⟩ | ⟨h1,_⟩ | ⟨h1,_⟩
 ·refine⟨fun z aL=>?_,by omega⟩;grind
 ·grind
 omega
theorem pU:kH x e=true<->(∀r∈x.bX,e<r.bf.aU)/\(∀r∈x.queue,r.bf.aU≠e)/\∀r∈x.cj,r.bf.aU≠e:=by
 simp only[kH,yd,Xz,iI,b9,gQ,fm,cc,iL];simp_all
theorem OG(g:bF)(cs:List Cell)(r:ay):∀q∈(dh g cs r).2.1,q.bf.aU=r.bf.aU:=by
 grind[dh,dY,hR,e4,eF]
theorem xP{α:Type}{xs:List α}{a d:α}(h:i≠j):(xs.set i a).getD j d=xs.getD j d:=by
 grind
theorem Dz{α:Type}{xs:List α}{a d:α}(h:i<xs.length):(xs.set i a).getD i d=a:=by
 grind
theorem OH{i e:Int}{l m:bC}(h:eA c i=some l):jl e (c3 c i m)+pQ e l=jl e c+pQ e m:=by
 unfold jl;exact Ir m (hJ h).2.2
theorem asN(e cap:Int)(q:List ay)(r:ay)(a b s g:Int)(l:bC)(aj:l.queue=q):pQ e ⟨cap,q++[r],a,b,s,g⟩=pQ e l+(if r.bf.aU=e then 1 else 0):=by
 simp only[pQ,iI,List.filter_append,lH,aj,List.filter_cons,List.filter_nil,iL];split<;>rfl
theorem asO(e:Int)(r:ay)(q:List ay)(l:bC)(aj:l.queue=r::q)(cap a b s g:Int):pQ e l=pQ e ⟨cap,q,a,b,s,g⟩+(if r.bf.aU=e then 1 else 0):=by
 simp only[pQ,iI,aj,List.filter_cons,iL];grind
theorem r8{c d:aV}{i:Int}{y:aN}(aa:b0 c i=some x)(aF:d.ao=c.ao.set i.toNat y)(h:eC y e=true->eC x e=true\/nJ c e=true)(aP:nJ d e=true->nJ c e=true):
  (oc d e||nJ d e)=true->(oc c e||nJ c e)=true:=by
 simp only[oi];rintro (hw | hw)
 ·unfold oc at hw ⊢;rw[aF,oj]at hw;obtain⟨z,aL,mb⟩:=hw;rcases iB aL with aL | rfl
  ·grind
  rcases h mb with h1 | h1
  ·exact .inl (oj.2 ⟨x,cB (dU aa).2.2,h1⟩)
  grind
 grind
theorem A5{a b:Int}(ae:0<=a)(aq:0<=b)(h:a≠b):a.toNat≠b.toNat:=by omega
variable{f:Int}
theorem Yd{d:Int}(he:0<=e/\e<=3)(br:0<=f/\f<=3){xs:List Int}(aj:xs.length=4):(nr xs f d).getD e.toNat 0=xs.getD e.toNat 0+(if f=e then d else 0):=by
 unfold nr;grind
theorem DA{g:bF}{w:aN}(h:e8 g w=true):w.bP.length=4/\w.bV.length=4/\w.bl.length=4:=by
 obtain⟨_,_,_,_,a',bu,bU,_⟩:=h3.1 h;grind
theorem OI{g:bF}{xs:List ay}(h:gy g xs=true){r:ay}(aB:r∈xs):0<=r.bf.aU/\r.bf.aU<=3:=by
 simp only[gy,gQ,fm]at h;exact r3 (g:=g) (by grind)
theorem wh{b:Bool}:eC (told x f b) e=(eC x e||f==e):=by
 simp[eC,told]
theorem ID{n:bW}:eC (ea x n) e=(eC x e||n.aU==e):=by
 unfold ea;split
 ·grind
 exact wh
theorem asP{n:bW}:kH (ea x n) e=kH x e:=by
 unfold ea;split<;>rfl
theorem IE{x:aN}{n:bW}{e:Int}:fB e (ea x n)=fB e x/\gr e (ea x n)=gr e x/\h9 e (ea x n)=h9 e x:=by
 unfold ea;split<;>exact⟨rfl,rfl,rfl⟩
theorem HY{k:Nat}(h:c.ao[k]?=some x):hc e c (k+1)=hc e c k+fB e x:=by
 simp[hc,p6,h]
variable{t:bO}
theorem wi(he:0<=e)(br:0<=f)(h:f≠e):(if 0<=e then (c.tokens.set f.toNat t)[e.toNat]? else none)=h4 c e:=by
 simp_all[h4,bq,A5]
theorem Ye{n:Nat}{b:Bool}(h:f≠e):((c.news++gf n f b).any fun x=>x.aU==e)=nJ c e:=by
 rw[List.any_append];have:((gf n f b).any fun x=>x.aU==e)=false:=by
  grind[fm,gf]
 rw[this,Bool.or_false];rfl
theorem Inv.aBt(h:Inv e c)(he:0<=e)(br:0<=f)(cU:f≠e)(aa:b0 c t.place=some x):Inv e (dB c f t x).1:=by
 have Eh:gr e (ez x f)=gr e x:=by
  grind[gr,ez,xP,A5]
 rcases pT c f t x with⟨_,U⟩ | ⟨_,_,h1⟩
 ·grind
 rcases h1 with⟨_,U⟩ | ⟨_,_,U⟩ | ⟨_,bE,_,U⟩ | ⟨_,_,_,U⟩
 ·rw[U];exact h.worker aa rfl (wi he br cU) (r8 aa rfl (fun k=>.inl k) id) (.inl ⟨rfl,fun k=>Eh.trans k,rfl,fun k=>⟨k,rfl⟩⟩)
 ·rw[U];exact h.worker aa rfl (wi he br cU) (r8 aa rfl (fun k=>.inl k) id) (.inl ⟨rfl,fun k=>Eh.trans k,rfl,fun k=>⟨k,rfl⟩⟩)
 ·rw[U];have aL:t.place=0:=by have:=(dU aa).1;omega
  rw[aL]at aa;refine h.worker aa rfl (wi he br cU) (r8 aa rfl (fun k=>?_) (fun k=>(Ye cU).symm.trans k)) (.inl ⟨rfl,id,rfl,fun k=>⟨k,rfl⟩⟩);simp_all[wh,false,Bool.or_false]
 rw[U];exact h.worker (y:=x) aa (A4 (dU aa).2.2).symm (wi he br cU) (r8 aa (A4 (dU aa).2.2).symm (fun k=>.inl k) id) (.inl ⟨rfl,id,rfl,fun k=>⟨k,rfl⟩⟩)
theorem asQ{n:Int}(h:0<=n):(n+1).toNat=n.toNat+1:=by omega
theorem asg{n:Int}:(n-1+1).toNat=n.toNat:=by grind
theorem PN{u:bO}(h:h4 c e=some t):(if 0<=e then (c.tokens.set e.toNat u)[e.toNat]? else none)=some u:=by
 obtain⟨bE,_,U⟩:=ye h;grind
theorem Inv.over(h:Inv e c)(bG:h4 c e=some t)(ar:t.going=true)(bE:¬0<t.place)(aa:b0 c t.place=some x)(hp:kH x e=true)
  (aq:t.bV=false/\x.bV.getD e.toNat false=false/\t.sum+x.bP.getD e.toNat 0=0):quiet e c/\((t.b7||h9 e x)=false->∀z∈c.ao,h9 e z=false):=by
 have aL:t.place=0:=by have:=(dU aa).1;omega
 obtain⟨_,_,gO⟩:=dU aa;rw[aL]at gO;have ai:hc e c 1=fB e x:=by rw[HY (k:=0) gO];simp[hc]
 have hB:=h.token t bG ar;unfold Good at hB;rw[aL]at hB;change ((_/\hc e c 1+t.sum=_)\/0<hc e c 1+t.sum\/_) at hB;rw[ai]at hB;have xh:t.sum+fB e x=0:=aq.2.2;rcases hB with⟨fc,FC⟩ | g | ⟨i,z,g1,g2,g3⟩ | g
 ·have key:∀z∈c.ao,kH z e=true/\(h9 e z=true->(t.b7||h9 e x)=true):=by
   intro z aL;obtain⟨i,hi⟩:=List.getElem?_of_mem aL;grind
  refine⟨⟨fun z aL=>(key z aL).1,by omega⟩,fun fP z aL=>?_⟩;grind
 ·omega
 ·simp_all[some,gr,false]
 grind
theorem Inv.aBu(h:Inv e c)(bI:cr c=true)(bG:h4 c e=some t)(aa:b0 c t.place=some x):Inv e (dB c e t x).1:=by
 obtain⟨i0,i1,i2⟩:=dU aa;obtain⟨_,_,F3,_⟩:=tg.1 (Ak bI bG);rcases pT c e t x with⟨_,U⟩ | ⟨_,hp,h1⟩
 ·grind
 have whole:∀u:bO,(u.going=true->Good e (setW (cO c e u) t.place (ez x e)) u)->Inv e (setW (cO c e u) t.place (ez x e)):=by
  intro u hu;have zB:∀k,hc e (setW (cO c e u) t.place (ez x e)) k=hc e c k:=fun k=>by
   have:=A2 (fB e) (ez x e) (k:=k) i2;rw[show fB e (ez x e)=fB e x from rfl,Int.sub_self,ite_self,Int.add_zero]at this;exact this
  refine⟨?_,fun du jG ar=>?_,fun jG=>?_⟩
  ·rw[zB,show (setW (cO c e u) t.place (ez x e)).ao.length=c.ao.length from iN];exact h.total
  ·rw[show h4 (setW (cO c e u) t.place (ez x e)) e=some u from PN bG]at jG;grind
  obtain⟨q1,eP⟩:=h.Bl (r8 (c:=c) (d:=setW (cO c e u) t.place (ez x e)) aa rfl (fun k=>.inl k) id jG);refine⟨fun z aL=>?_,eP⟩;rcases iB aL with aL | rfl
  ·exact q1 z aL
  exact hp
 have Gv:∀(u:bO) k,hc e (setW (cO c e u) t.place (ez x e)) k=hc e c k:=fun u k=>by
  have:=A2 (fB e) (ez x e) (k:=k) i2;rw[show fB e (ez x e)=fB e x from rfl,Int.sub_self,ite_self,Int.add_zero]at this;exact this
 rcases h1 with⟨ar,U⟩ | ⟨ar,bE,U⟩ | ⟨ar,bE,aq,U⟩ | ⟨ar,bE,aq,U⟩
 ·rw[U];refine whole _ fun _=>.inl ⟨fun j z a8 aL=>?_,?_⟩
  ·have:=a6 aL;rw[show (setW (cO c e _) t.place (ez x e)).ao.length=c.ao.length from iN]at this;grind
  rw[Gv];change hc e c ((c.ao.length:Int)-1+1).toNat+0=jl e c;rw[show ((c.ao.length:Int)-1+1).toNat=c.ao.length by omega,Int.add_zero];exact h.total
 ·rw[U];have hB:=h.token t bG ar;refine whole _ fun _=>?_
  unfold Good at hB ⊢;rw[Gv];change ((∀(i:Nat) z,t.place-1<i->_->_)/\hc e c (t.place-1+1).toNat+(t.sum+fB e x)=jl e c)\/0<hc e c (t.place-1+1).toNat+(t.sum+fB e x)\/(∃(i:Nat) (z:aN),(i:Int)<=t.place-1/\_)\/(t.bV||gr e x)=true;rw[asQ i0,HY i2]at hB;rw[asg];rcases hB with⟨fc,FC⟩ | g | ⟨i,z,g1,g2,g3⟩ | g
  ·refine .inl ⟨fun j z a8 aL=>?_,by omega⟩;change (c.ao.set t.place.toNat (ez x e))[j]?=some z at aL;rcases xO aL with⟨rfl,rfl⟩ | ⟨cU,aL⟩
   ·exact⟨hp,fun k=>by change (t.b7||h9 e x)=true;rw[show h9 e x=true from k,Bool.or_true]⟩
   grind
  ·grind
  ·by_cases hi:i=t.place.toNat
   ·grind
   exact .inr (.inr (.inl ⟨i,z,by omega,A3 g2 hi,g3⟩))
  grind
 ·rw[U];obtain⟨⟨q1,eP⟩,_⟩:=h.over bG ar bE aa hp aq;have aL:t.place=0:=by omega
  rw[aL]at i2 i1;have zB:∀k,((((c.ao.set 0 (told x e (t.b7||x.bl.getD e.toNat false))).take k).map (fB e)).sum)=hc e c k:=fun k=>by
   have:=A2 (fB e) (told x e (t.b7||x.bl.getD e.toNat false)) (k:=k) i2;rw[show fB e (told x e (t.b7||x.bl.getD e.toNat false))=fB e x from rfl,Int.sub_self,ite_self,Int.add_zero]at this;exact this
  refine⟨?_,fun du jG KA=>?_,fun _=>⟨fun z aL=>?_,eP⟩⟩
  ·refine (zB _).trans ?_;rw[show (gA (setW (cO c e ⟨false,t.place,t.sum,t.bV,t.b7⟩) 0 (told x e (t.b7||x.bl.getD e.toNat false))) (c.news++gf (c.ao.length-1) e (t.b7||x.bl.getD e.toNat false))).ao.length=c.ao.length from iN];exact h.total
  ·change (if 0<=e then (c.tokens.set e.toNat _)[e.toNat]? else none)=some du at jG;grind
  rcases iB aL with aL | rfl
  ·exact q1 z aL
  exact hp
 rw[U];refine⟨h.total,fun du jG KA=>?_,h.Bl⟩;change (if 0<=e then (c.tokens.set e.toNat _)[e.toNat]? else none)=some du at jG;grind
theorem Inv.step{d:aV}{p:b6}(h:Inv e c)(he:0<=e/\e<=3)(bI:cr c=true)(st:Step c p d):Inv e d:=by
 cases st with
 | work x r q hk aa ai aC=>
  have bb:=iJ bI aa;obtain⟨_,_,aj⟩:=DA bb;refine h.worker aa rfl rfl (r8 aa rfl (fun k=>.inl k) id) (.inl ⟨rfl,id,rfl,fun k=>?_⟩);obtain⟨b8,bt,eL⟩:=pU.1 k;rw[aC]at bt;have fI:=bt r (fN ..);refine⟨pU.2 ⟨b8,fun a ae=>bt a (ff _ ae),fun a ae=>?_⟩,?_⟩
  ·grind[OG]
  have aB:=OI (h3.1 bb).1 (r:=r) (by grind);grind[h9,xP,A5]
 | input x r t hk aa ai aC hi=>
  refine h.worker aa rfl rfl (r8 aa rfl (fun k=>.inl k) id) (.inl ⟨rfl,id,rfl,fun k=>⟨?_,rfl⟩⟩);obtain⟨b8,bt,eL⟩:=pU.1 k;rw[hi]at b8;refine pU.2 ⟨fun a ae=>b8 a (ff _ ae),fun a ae=>?_,fun a ae=>by cases ae⟩;grind
 | eU x r t hk aa ai aW=>
  refine h.worker aa rfl rfl (r8 aa rfl (fun k=>.inl k) id) (.inl ⟨rfl,id,rfl,fun k=>⟨?_,rfl⟩⟩);obtain⟨b8,bt,eL⟩:=pU.1 k;rw[ai]at eL;refine pU.2 ⟨b8,fun a ae=>?_,fun a ae=>eL a (ff _ ae)⟩;rcases gg.1 ae with ae | ae
  ·exact bt a ae
  grind
 | send x r t l hk aa ai aW aj hsend=>
  obtain⟨_,_,_,e1⟩:=Ap hsend;have bb:=iJ bI aa;obtain⟨vC,_,_⟩:=DA bb;have aB:=OI (h3.1 bb).2.1 (r:=r) (by grind);have br:=OH (e:=e) (m:=(ei l r).1) aj;have rF:fB e (lD (hI x t) r.bf.aU)=fB e x+(if r.bf.aU=e then 1 else 0):=Yd he aB vC;rw[e1,asN e _ _ r _ _ _ _ l rfl]at br;refine h.worker aa (d:=setW (c3 c _ (ei l r).1) p.a _) rfl rfl (r8 aa rfl (fun k=>.inl k) id) ?_;have vB:jl e (setW (c3 c (dT c.ax p.a (ec r.key c.ax.ao)) (ei l r).1) p.a (lD (hI x t) r.bf.aU))=jl e c+(if r.bf.aU=e then 1 else 0):=by
   rw[e1];change jl e (c3 c _ _)=_;omega
  by_cases kz:r.bf.aU=e
  ·rw[bh kz]at rF vB;refine .inr (.inl ⟨?_,rF,id,vB⟩);rw[u5];intro k;obtain⟨_,_,eL⟩:=pU.1 k;grind
  rw[bq kz]at rF vB;refine .inl ⟨by omega,id,by omega,fun k=>⟨?_,rfl⟩⟩;obtain⟨b8,bt,eL⟩:=pU.1 k;rw[ai]at eL;exact pU.2 ⟨b8,bt,fun a ae=>eL a (ff _ ae)⟩
 | take l x hk dw aj aa bG=>
  obtain⟨_,r,q,aC,e2,e1⟩:=vZ bG;have bb:=iJ bI aa;obtain⟨vC,tX,_⟩:=DA bb;have aB:=r3 (Ip (r2 bI aj) bG).2;rw[e2]at aB;have br:=OH (e:=e) (m:=(dF l).1) aj;have rF:fB e (jY x r)=fB e x+(if r.bf.aU=e then -1 else 0):=Yd he aB vC;rw[e1,asO e r q l aC l.cap l.fb (l.back+1) l.eG (l.eo+1)]at br;rw[e2];refine h.worker aa (d:=setW (c3 c _ (dF l).1) p.b _) rfl rfl (r8 aa rfl (fun k=>.inl k) id) ?_;have vB:jl e (setW (c3 c (dT c.ax p.a p.b) (dF l).1) p.b (jY x r))+(if r.bf.aU=e then 1 else 0)=jl e c:=by
   rw[e1];change jl e (c3 c _ _)+_=_;omega
  by_cases kz:r.bf.aU=e
  ·rw[bh kz]at rF vB;grind[gr,jY,Dz]
  rw[bq kz]at rF vB;refine .inl ⟨by omega,fun k=>?_,by omega,fun k=>⟨?_,rfl⟩⟩
  ·grind[gr,jY,xP,A5]
  obtain⟨b8,bt,eL⟩:=pU.1 k;refine pU.2 ⟨b8,fun a ae=>?_,eL⟩;rcases gg.1 ae with ae | ae
  ·exact bt a ae
  grind
 | qb l hk dw aj al=>
  rcases v7 l with⟨k,_⟩ | ⟨_,_,_,e1⟩
  ·grind
  have br:=OH (e:=e) (m:=(fK l).1) aj;have U:pQ e (fK l).1=pQ e l:=by rw[e1];rfl
  have aA:jl e (c3 c (dT c.ax p.a p.b) (fK l).1)=jl e c:=by omega
  refine⟨by rw[aA];exact h.total,fun t jG ar=>?_,fun jG=>⟨(h.Bl jG).1,by rw[aA];exact (h.Bl jG).2⟩⟩;have hB:=h.token t jG ar;unfold Good at hB ⊢;rw[aA];exact hB
 | token t x cv hk iu bE aF bG aa rm=>
  simp only[aw,cc]at iu;by_cases Cj:p.a=e
  ·subst Cj;exact h.aBu bI bG aa
  exact h.aBt he.1 iu.1 Cj aa
 | qm k n x hk aP aF aa=>
  obtain⟨b8,bt,eL⟩:=IE (x:=x) (n:=n) (e:=e);refine h.worker aa rfl rfl (r8 aa rfl (fun q=>?_) (fun q=>?_)) (.inl ⟨b8,fun q=>bt.trans q,rfl,fun q=>⟨asP.trans q,eL⟩⟩)
  ·rw[ID,oi]at q;rcases q with q | q
   ·exact .inl q
   exact .inr (oj.2 ⟨n,cB aP,q⟩)
  unfold nJ at q ⊢;rw[oj]at q ⊢;obtain⟨m,hm,q⟩:=q;refine⟨m,?_,q⟩;change m∈cutAt c.news k at hm;grind[cutAt,tB,wW]
end Go.Proofs.YtdchjefneblpgaaGreat
namespace Go.Proofs.YtdchjefneblpgaaGreat
open Go.Sx Go.RowKit Go.Proofs.Tryz
def sR(g:bF)(op:Int):Int:=match dZ g op with | some n=>n.kind | none=>0
variable{g:bF}{n:Node}
theorem aeL{op:Int}(h:dZ g op=some n):sR g op=n.kind:=by unfold sR;rw[h]
def lg(e:Int)(H:Cell->Prop)(iO:ay->Prop)(x:Cell):Prop:=H x\/∃r,iO r/\r.bf.aU=e/\cellOf r=x
structure p9 (g:bF) (F ins:List Cell) (e:Int) (H:Cell->Prop) (iO:ay->Prop) (In:Cell->Prop) (mem:Nat->List Cell) (gw:Int->Nat) (q5:Prop):Prop where
 Gh:∀x∈ins,In x\/gY (lg e H iO) x
 below:∀x,lg e H iO x->gY (fun a=>a∈F) x
 fit:∀x,lg e H iO x->Fits g x/\x.aU=e
 close:¬q5->∀x,H x->∃a,H a/\cY x a=true/\a.val<=x.val/\∀y∈j4 g a,gY (lg e H iO) y
 vI:∀i,∀z∈mem i,z.aU=e->H z/\gw z.key=i
 outs:∀x,H x->sR g x.op=8->∃z∈mem (gw x.key),cY x z=true/\z.val<=x.val
 wR:∀i,∀z∈mem i,∀sg∈mem i,z.aU=e->sR g z.op=8->cY z sg=true->z=sg
variable{r:ay}
theorem PO(h:ig g r=false):dM r=true/\∃n,dZ g r.op=some n:=by
 simp only[ig,fw,jf,l4]at h;have bE:0<=r.op:=by
  have:=h.1;simp only[dM,aw,b9,cc]at this;omega
 refine⟨h.1,?_⟩;unfold dZ;rw[bh bE];exact cV (by omega)
theorem ash{cs:List Cell}(ar:dg g=true)(aB:ig g r=false):∀q∈(dh g cs r).2.1,cellOf q∈j4 g (cellOf r):=by
 intro q aC;obtain⟨bI,n,aP⟩:=PO aB;rw[OB ar bI aP]at aC;have sE:dZ g (cellOf r).op=some n:=aP;unfold j4;rw[sE];have ai:∀s:hR,s.aU=r.bf.aU->q∈e4 n s (b3 n r.key r.val).1 (b3 n r.key r.val).2.1->cellOf q∈yR n (cellOf r) (b3 n r.key r.val).1 (b3 n r.key r.val).2.1:=by
  intro s F7 hm;obtain⟨o,aW,rfl⟩:=fV.1 hm;exact fV.2 ⟨o,aW,by unfold cellOf;rw[F7]⟩
 have cU:(eF r.bf).1.aU=r.bf.aU:=by unfold eF;split<;>rfl
 split at aC
 ·cases aC
 rename_i al;split at aC
 ·cases aC
 have mc:(b3 n r.key r.val).2.2=true\/n.outs=[]:=by
  cases aL:(b3 n r.key r.val).2.2 with
  | true=>exact .inl rfl
  | false=>
   right;rw[aL]at al;have cI:n.kind=8:=by simpa using al
   have nk:=A0 ar aP;unfold aO at nk;rw[cI]at nk;simp only[b9,gQ,wY,lb,l4]at nk;exact List.length_eq_zero_iff.1 (by omega)
 dsimp only;rcases mc with mc | mc
 ·rw[bh (show (b3 n (cellOf r).key (cellOf r).val).2.2=true from mc)];split at aC
  ·split at aC
   ·exact ai _ cU aC
   cases aC
  exact ai _ rfl aC
 have aL:∀s k v,e4 n s k v=[]:=fun s k v=>by simp[e4,mc]
 simp only[aL,ite_self]at aC;cases aC
theorem asi{cs:List Cell}(ar:dg g=true)(bI:dM r=true)(aP:dZ g r.op=some n)(hp:(cm n.kind cs (cellOf r)).2=true)(al:b7 g r=false):∀y∈j4 g (cellOf r),∃q∈(dh g cs r).2.1,cellOf q=y:=by
 intro y bk;have sE:dZ g (cellOf r).op=some n:=aP;unfold j4 at bk;rw[sE]at bk;dsimp only at bk;split at bk
 case isFalse=>cases bk
 rename_i mc;have adn:(b3 n r.key r.val).2.2=true:=mc;obtain⟨o,aW,rfl⟩:=fV.1 bk;rw[OB ar bI aP,bq (by rw[adn];simp),bq (by rw[hp];decide)];split
 ·rename_i bU;have FY:(eF r.bf).2=true:=by
   unfold b7 at al;rw[aP]at al;dsimp only at al;unfold kF at al;rw[ar,bI,bU]at al;simp only[Bool.and_self,wY,lb,Bool.and_eq_false_imp,cc,jf]at al;exact al (List.length_pos_of_mem aW)
  rw[bh FY];refine⟨⟨o,(eF r.bf).1,(b3 n r.key r.val).1,(b3 n r.key r.val).2.1⟩,fV.2 ⟨o,aW,rfl⟩,?_⟩;have cU:(eF r.bf).1.aU=r.bf.aU:=by unfold eF;split<;>rfl
  unfold cellOf;rw[cU]
 exact⟨⟨o,r.bf,(b3 n r.key r.val).1,(b3 n r.key r.val).2.1⟩,fV.2 ⟨o,aW,rfl⟩,rfl⟩
theorem Yf{cs:List Cell}(ar:dg g=true)(bI:dM r=true)(aP:dZ g r.op=some n):
  ((dh g cs r).1=cs/\((n.kind=5\/n.kind=6\/n.kind=8)->oa n.kind cs (cellOf r)))\/
  ((n.kind=5\/n.kind=6\/n.kind=8)/\(cm n.kind cs (cellOf r)).2=true/\(∀z,z∈(dh g cs r).1<->z=cellOf r\/(z∈cs/\(n.kind≠6->cY (cellOf r) z=false)))/\∀z∈cs,n.kind≠6->cY (cellOf r) z=true->(cellOf r).val<=z.val):=by
 have e:=XY (cs:=cs) ar bI aP;by_cases hk:n.kind=5\/n.kind=6\/n.kind=8
 ·cases aB:(cm n.kind cs (cellOf r)).2 with
  | false=>exact .inl ⟨by rw[e,XW aB],fun _=>(z' hk _ _).1 aB⟩
  | true=>
   refine .inr ⟨hk,rfl,fun z=>by rw[e];exact AZ hk aB,fun z aL bu ai=>?_⟩;refine Classical.byContradiction fun bD=>?_
   have:oa n.kind cs (cellOf r):=by
    unfold oa;rw[bq bu];exact⟨z,aL,ai,by omega⟩
   rw[(z' hk _ _).2 this]at aB;cases aB
 exact .inl ⟨by rw[e,uT (by omega) (by omega) (by omega)],fun q=>absurd q hk⟩
section
variable {g : bF} {F ins : List Cell} {e : Int} {H : Cell -> Prop} {iO kO : ay -> Prop} {In Rs : Cell -> Prop} {mem oL : Nat -> List Cell} {gw : Int -> Nat} {q5 tN : Prop}
theorem p9.work(h:p9 g F ins e H iO In mem gw q5)(ar:dg g=true)(RX:∀x∈F,∀y∈j4 g x,gY (fun a=>a∈F) y)(acI:∀x∈F,ey x.key x.val=true){r:ay}{i:Nat}(aB:ig g r=false)(kz:r.bf.aU=e)(hp:iO r)(aW:gw r.key=i)
  (B3:∀q,iO q->kO q\/q=r) (acK:∀q∈(dh g (mem i) r).2.1,kO q) (xf:∀q,kO q->iO q\/q∈(dh g (mem i) r).2.1)
  (mf:oL i=(dh g (mem i) r).1) (Cg:∀j,j≠i->oL j=mem j) (lp:q5->tN) (lL:b7 g r=true->tN):
  p9 g F ins e (fun x=>H x\/x=cellOf r) kO In oL gw tN:=by
 obtain⟨bI,n,aP⟩:=PO aB;have FT:sR g r.op=n.kind:=aeL aP;have Kf:lg e H iO (cellOf r):=.inr ⟨r,hp,kz,rfl⟩;have up:∀x,lg e H iO x->lg e (fun x=>H x\/x=cellOf r) kO x:=by
  rintro x (aa | ⟨q,aC,lr,rfl⟩)
  ·exact .inl (.inl aa)
  rcases B3 q aC with aC | rfl
  ·exact .inr ⟨q,aC,lr,rfl⟩
  exact .inl (.inr rfl)
 have down:∀x,lg e (fun x=>H x\/x=cellOf r) kO x->lg e H iO x\/x∈j4 g (cellOf r):=by
  rintro x ((aa | rfl) | ⟨q,aC,lr,rfl⟩)
  ·exact .inl (.inl aa)
  ·exact .inl Kf
  rcases xf q aC with aC | aC
  ·exact .inl (.inr ⟨q,aC,lr,rfl⟩)
  exact .inr (ash ar aB q aC)
 have eh:=h.fit _ Kf;have Fh:=Yf (cs:=mem i) ar bI aP;have aDn:(cellOf r).aU=e:=kz;refine⟨fun x aa=>(h.Gh x aa).imp id fun q=>q.mono fun a ae=>.self (up a ae),fun x aa=>?_,fun x aa=>?_,fun fP x aa=>?_,fun j z aL jN=>?_,fun x aa cI=>?_,fun j z aL sg gl jN cI ai=>?_⟩
 ·rcases down x aa with aa | aa
  ·exact h.below x aa
  obtain⟨f,br,b8,bt⟩:=h.below _ Kf;obtain⟨w,hw,w1,hM⟩:=OD ar eh.1.2.1 (acI f br) b8 bt x aa;exact (RX f br w hw).less w1 hM
 ·rcases down x aa with aa | aa
  ·exact h.fit x aa
  refine⟨OE ar eh.1 x aa,?_⟩;unfold j4 at aa;rw[show dZ g (cellOf r).op=some n from aP]at aa;dsimp only at aa;split at aa
  ·obtain⟨o,_,rfl⟩:=fV.1 aa;exact kz
  cases aa
 ·have acZ:¬q5:=fun q=>fP (lp q)
  have CM:∀x,H x->∃a,(H a\/a=cellOf r)/\cY x a=true/\a.val<=x.val/\∀y∈j4 g a,gY (lg e (fun x=>H x\/x=cellOf r) kO) y:=fun x aa=>by
   obtain⟨a,b8,bt,eL,k4⟩:=h.close acZ x aa;exact⟨a,.inl b8,bt,eL,fun y bk=>(k4 y bk).mono fun b aq=>.self (up b aq)⟩
  rcases aa with aa | rfl
  ·exact CM x aa
  have blocked:(n.kind=5\/n.kind=6\/n.kind=8)->oa n.kind (mem i) (cellOf r)->∃a,(H a\/a=cellOf r)/\cY (cellOf r) a=true/\a.val<=(cellOf r).val/\∀y∈j4 g a,gY (lg e (fun x=>H x\/x=cellOf r) kO) y:=fun hk aq=>by
   have:∃a∈mem i,cY (cellOf r) a=true/\a.val<=(cellOf r).val:=by
    unfold oa at aq;split at aq
    ·exact⟨cellOf r,aq,IC _,Int.le_refl _⟩
    exact aq
   obtain⟨a,ae,b8,bt⟩:=this;have zn:a.aU=e:=(jW.1 b8).2.1.trans kz;obtain⟨b,eO,fo,l7,xa⟩:=CM a (h.vI i a ae zn).1;exact⟨b,eO,wg b8 fo,Br l7 bt,xa⟩
  have pass:(cm n.kind (mem i) (cellOf r)).2=true->∃a,(H a\/a=cellOf r)/\cY (cellOf r) a=true/\a.val<=(cellOf r).val/\∀y∈j4 g a,gY (lg e (fun x=>H x\/x=cellOf r) kO) y:=fun ad8=>by
   have nS:b7 g r=false:=by
    cases xk:b7 g r with
    | false=>rfl
    | true=>exact absurd (lL xk) fP
   refine⟨cellOf r,.inr rfl,IC _,Int.le_refl _,fun y bk=>?_⟩;obtain⟨q,aC,rfl⟩:=asi ar bI aP ad8 nS y bk;exact .self (.inr ⟨q,acK q aC,(OG _ _ _ q aC).trans kz,rfl⟩)
  cases Ck:(cm n.kind (mem i) (cellOf r)).2 with
  | true=>exact pass Ck
  | false=>
   by_cases hk:n.kind=5\/n.kind=6\/n.kind=8
   ·exact blocked hk ((z' hk _ _).1 Ck)
   rw[uT (by omega) (by omega) (by omega)]at Ck;cases Ck
 ·by_cases a8:j=i
  ·subst a8;rw[mf]at aL;rcases Fh with⟨j',_⟩ | ⟨_,_,j',_⟩
   ·rw[j']at aL;exact (h.vI j z aL jN).imp .inl id
   rcases (j' z).1 aL with rfl | ⟨aL,_⟩
   ·exact⟨.inr rfl,aW⟩
   exact (h.vI j z aL jN).imp .inl id
  rw[Cg j a8]at aL;exact (h.vI j z aL jN).imp .inl id
 ·have aeI:∀x,(∃z∈mem (gw x.key),cY x z=true/\z.val<=x.val)->∃z∈oL (gw x.key),cY x z=true/\z.val<=x.val:=by
   rintro x ⟨z,aL,b8,bt⟩;by_cases a8:gw x.key=i
   ·rw[a8]at aL ⊢;rw[mf];rcases Fh with⟨j',_⟩ | ⟨hk,_,j',Fu⟩
    ·rw[j'];exact⟨z,aL,b8,bt⟩
    by_cases zC:n.kind≠6/\cY (cellOf r) z=true
    ·exact⟨cellOf r,(j' _).2 (.inl rfl),wg b8 (OC zC.2),Br (Fu z aL zC.1 zC.2) bt⟩
    exact⟨z,(j' z).2 (.inr ⟨aL,fun bu=>by
     cases Cp:cY (cellOf r) z with
     | false=>rfl
     | true=>exact absurd ⟨bu,Cp⟩ zC⟩),b8,bt⟩
   rw[Cg _ a8];exact⟨z,aL,b8,bt⟩
  rcases aa with aa | rfl
  ·exact aeI x (h.outs x aa cI)
  have FQ:n.kind=8:=FT.symm.trans cI;change ∃z∈oL (gw r.key),_;rcases Fh with⟨j',Fu⟩ | ⟨_,_,j',_⟩
  ·have aq:=Fu (.inr (.inr FQ));unfold oa at aq;rw[bq (by omega)]at aq;rw[aW,mf,j'];exact aq
  rw[aW,mf];exact⟨cellOf r,(j' _).2 (.inl rfl),IC _,Int.le_refl _⟩
 by_cases a8:j=i
 ·subst a8;rw[mf]at aL gl;rcases Fh with⟨j',_⟩ | ⟨_,_,j',_⟩
  ·rw[j']at aL gl;exact h.wR j z aL sg gl jN cI ai
  have nt:∀w:Cell,w.op=r.op->sR g w.op=8->n.kind≠6:=fun w hw aew=>by rw[hw,FT]at aew;omega
  rcases (j' z).1 aL with rfl | ⟨aL,gv⟩
  ·rcases (j' sg).1 gl with rfl | ⟨_,gT⟩
   ·rfl
   rw[gT (nt _ rfl cI)]at ai;cases ai
  rcases (j' sg).1 gl with rfl | ⟨gl,_⟩
  ·have df:=OC ai;rw[gv (nt z (jW.1 df).1 cI)]at df;cases df
  exact h.wR j z aL sg gl jN cI ai
 rw[Cg j a8]at aL gl;exact h.wR j z aL sg gl jN cI ai
theorem p9.other(h:p9 g F ins e H iO In mem gw q5)(ar:dg g=true){r:ay}{i:Nat}(aB:ig g r=false)(kz:r.bf.aU≠e)
  (B3:∀q,iO q->kO q\/q=r) (xf:∀q,kO q->iO q\/q∈(dh g (mem i) r).2.1)
  (mf:oL i=(dh g (mem i) r).1) (Cg:∀j,j≠i->oL j=mem j) (lp:q5->tN):p9 g F ins e H kO In oL gw tN:=by
 obtain⟨bI,n,aP⟩:=PO aB;have up:∀x,lg e H iO x->lg e H kO x:=by
  rintro x (aa | ⟨q,aC,lr,rfl⟩)
  ·exact .inl aa
  rcases B3 q aC with aC | rfl
  ·exact .inr ⟨q,aC,lr,rfl⟩
  exact absurd lr kz
 have down:∀x,lg e H kO x->lg e H iO x:=by
  rintro x (aa | ⟨q,aC,lr,rfl⟩)
  ·exact .inl aa
  rcases xf q aC with aC | aC
  ·exact .inr ⟨q,aC,lr,rfl⟩
  exact absurd ((OG _ _ _ q aC).symm.trans lr) kz
 have same:∀j z,z.aU=e->(z∈oL j<->z∈mem j):=fun j z jN=>by
  by_cases a8:j=i
  ·subst a8;rw[mf];rcases Yf (cs:=mem j) ar bI aP with⟨j',_⟩ | ⟨_,_,j',_⟩
   ·rw[j']
   rw[j'];constructor
   ·rintro (rfl | ⟨aL,_⟩)
    ·exact absurd jN kz
    exact aL
   intro aL;refine .inr ⟨aL,fun _=>?_⟩;rw[u5];exact fun ai=>kz ((jW.1 ai).2.1.symm.trans jN)
  rw[Cg j a8]
 refine⟨fun x aa=>(h.Gh x aa).imp id fun q=>q.mono fun a ae=>.self (up a ae),fun x aa=>h.below x (down x aa),fun x aa=>h.fit x (down x aa),fun fP x aa=>?_,fun j z aL jN=>h.vI j z ((same j z jN).1 aL) jN,fun x aa cI=>?_,fun j z aL sg gl jN cI ai=>?_⟩
 ·obtain⟨a,b8,bt,eL,k4⟩:=h.close (fun q=>fP (lp q)) x aa;exact⟨a,b8,bt,eL,fun y bk=>(k4 y bk).mono fun b aq=>.self (up b aq)⟩
 ·obtain⟨z,aL,b8,bt⟩:=h.outs x aa cI;exact⟨z,(same _ z ((jW.1 b8).2.1.trans (h.fit x (.inl aa)).2)).2 aL,b8,bt⟩
 exact h.wR j z ((same j z jN).1 aL) sg ((same j sg ((jW.1 ai).2.1.trans jN)).1 gl) jN cI ai
theorem p9.move(h:p9 g F ins e H iO In mem gw q5)(hm:∀j,oL j=mem j)(al:q5->tN)(B3:∀q,iO q->kO q)(xf:∀q,kO q->q.bf.aU=e->iO q\/(gY (fun a=>a∈F) (cellOf q)/\Fits g (cellOf q)))
  (FG:∀x,In x->Rs x\/∃q,kO q/\q.bf.aU=e/\cellOf q=x):p9 g F ins e H kO Rs oL gw tN:=by
 have KL:oL=mem:=funext hm;subst KL;have up:∀x,lg e H iO x->lg e H kO x:=by
  rintro x (aa | ⟨q,aC,lr,rfl⟩)
  ·exact .inl aa
  exact .inr ⟨q,B3 q aC,lr,rfl⟩
 refine⟨fun x aa=>?_,fun x aa=>?_,fun x aa=>?_,fun fP x aa=>?_,h.vI,h.outs,h.wR⟩
 ·rcases h.Gh x aa with k | k
  ·rcases FG x k with k | k
   ·exact .inl k
   exact .inr (.self (.inr k))
  exact .inr (k.mono fun a ae=>.self (up a ae))
 ·rcases aa with aa | ⟨q,aC,lr,rfl⟩
  ·exact h.below x (.inl aa)
  rcases xf q aC lr with aC | aC
  ·exact h.below _ (.inr ⟨q,aC,lr,rfl⟩)
  exact aC.1
 ·rcases aa with aa | ⟨q,aC,lr,rfl⟩
  ·exact h.fit x (.inl aa)
  rcases xf q aC lr with aC | aC
  ·exact h.fit _ (.inr ⟨q,aC,lr,rfl⟩)
  exact⟨aC.2,lr⟩
 obtain⟨a,b8,bt,eL,k4⟩:=h.close (fun q=>fP (al q)) x aa;exact⟨a,b8,bt,eL,fun y bk=>(k4 y bk).mono fun b aq=>.self (up b aq)⟩
theorem p9.final(h:p9 g F ins e H iO In mem gw q5)(fP:¬q5)(zl:∀q,iO q->q.bf.aU≠e)(FG:∀x,¬In x)
  (acG:∀K:Cell->Prop,(∀x,K x->ey x.key x.val=true)->(∀x,K x->∀y∈j4 g x,gY K y)->(∀x∈ins,gY K x)->∀x∈F,gY K x) (acH:∀a∈F,∀b∈F,cY a b=true->a=b) (ar:dg g=true):
  (∀i,∀z∈mem i,z.aU=e->sR g z.op=8->z∈F)/\∀f∈F,sR g f.op=8->f∈mem (gw f.key):=by
 have only:∀x,lg e H iO x->H x:=by
  rintro x (aa | ⟨q,aC,lr,_⟩)
  ·exact aa
  exact absurd lr (zl q aC)
 have fits:∀x,H x->ey x.key x.val=true:=fun x aa=>(h.fit x (.inl aa)).1.2.1
 have closed:∀x,H x->∀y∈j4 g x,gY H y:=fun x aa y bk=>by
  obtain⟨a,b8,bt,eL,k4⟩:=h.close fP x aa;obtain⟨w,hw,w1,hM⟩:=OD ar (fits x aa) (fits a b8) bt eL y bk;exact ((k4 w hw).mono fun b aq=>.self (only b aq)).less w1 hM
 have least:=acG H fits closed fun x aa=>((h.Gh x aa).resolve_left (FG x)).mono fun b aq=>.self (only b aq)
 have Z8:∀{a b:Cell},cY a b=true->a.val=b.val->a=b:=fun {a b} ai bD=>by
  obtain⟨s1,s2,sc⟩:=jW.1 ai;cases a;cases b;simp only at s1 s2 sc bD;rw[s1,s2,sc,bD]
 constructor
 ·intro i z aL jN cI;obtain⟨hH,hi⟩:=h.vI i z aL jN;obtain⟨f,br,b8,bt⟩:=h.below z (.inl hH);obtain⟨x,aa,fM,gO⟩:=least f br;have SR:=wg b8 fM;obtain⟨s1,s2,sc⟩:=jW.1 SR;obtain⟨z2,nV,w1,hM⟩:=h.outs x aa (by rw[s1];exact cI);rw[sc,hi]at nV;have:=h.wR i z aL z2 nV jN cI (wg SR w1);subst this;have Cy:z=f:=Z8 b8 (by omega);rw[Cy];exact br
 intro f br cI;obtain⟨x,aa,fM,gO⟩:=least f br;obtain⟨s1,s2,sc⟩:=jW.1 fM;obtain⟨z,aL,w1,hM⟩:=h.outs x aa (by rw[s1];exact cI);rw[sc]at aL;have Kz:=wg fM w1;have jN:z.aU=e:=(jW.1 w1).2.1.trans (h.fit x (.inl aa)).2;obtain⟨hH,_⟩:=h.vI _ z aL jN;obtain⟨f2,Kw,b8,bt⟩:=h.below z (.inl hH);have:=acH f br f2 Kw (wg Kz b8);subst this;have Cy:f=z:=Z8 Kz (by omega);rw[Cy]at aL ⊢;exact aL
end
end Go.Proofs.YtdchjefneblpgaaGreat
namespace Go.Proofs.YtdchjefneblpgaaGreat
open Go.Sx Go.RowKit Go.Proofs.Tryz
def nI(c:aV)(b:Bool):List D:=[.J 4 (c.ax.nodes.map Node.e),I c.ax.ao,I c.ax.cap,.J 8 (c.ao.map aN.e),.J 6 (c.bQ.map bC.e),.J 5 (c.tokens.map bO.e),.J 3 (c.news.map bW.e),B b]
abbrev fT(c:aV):List D:=nI c (cr c)
theorem HZ(w:aN)(e:Int)(r:Bool)(h:eC w e=r)(hw:w.sz<=8388608):av 210 [.agg w.e,.one (I e)] [.one (B r)]:=h▸anD w e hw
theorem PQ(c:aV)(al:c.sz<=8388608)(hw:ga c):cH prog 127 [.ro (.agg c.e)] (.new (fT c)):=
 aok ⟨aqN c al,ana c al hw,ad⟩
variable{i:Nat}
theorem PR{α:Type}{f:α->List D}{xs:List α}{a:α}:(xs.map f).set i (f a)=(xs.set i a).map f:=List.map_set.symm
variable{c:aV}{x:aN}
theorem mQ{i:Int}(h:b0 c i=some x):0<=i/\i<(↑(c.ao.map aN.e).length:Int)/\(c.ao.map aN.e)[i.toNat]?=some x.e:=by
 obtain⟨h1,U,aA⟩:=dU h;exact⟨h1,by rw[cp];omega,bL aN.e aA⟩
theorem nG{i:Int}(h:b0 c i=some x)(al:c.sz<=8388608):x.sz<=8388608:=aV.Ek al (cB (dU h).2.2)
theorem asj{l:List bW}(hi:i<l.length):([]++((l.map bW.e).drop 0).take (((some (i:Int)).getD (↑(l.map bW.e).length:Int)).toNat-0)++((l.map bW.e).drop ((some ((i:Int)+1)).getD 0).toNat).take ((l.map bW.e).length-((some ((i:Int)+1)).getD 0).toNat))=(cutAt l i).map bW.e:=by
 have e1:((i:Int)+1).toNat=i+1:=by omega
 simp only[cutAt,l0,mU,Nat.sub_zero,va,List.nil_append,e1,gF,tE,List.map_drop]
 congr 1
 rw[wV (by simp)]
theorem XH{l:List bW}:((l.map bW.e).drop ((some ((i:Int)+1)).getD 0).toNat).take ((l.map bW.e).length-((some ((i:Int)+1)).getD 0).toNat)=(l.drop (i+1)).map bW.e:=by
 have e1:((i:Int)+1).toNat=i+1:=by omega
 simp only[l0,e1,List.map_drop];rw[wV (by simp)]
theorem PS(h:cr c=true){n:bW}(aP:c.news[i]?=some n){w:Int}(hw:(n.dest==w)=true):∃x,b0 c w=some x:=by
 have aq:=Pp h aP;simp only[lU,aw,fw,jf,cc]at aq;have U:=(fe.1 h).2.1;have e:=eq_of_beq hw;exact oV (by omega) (by omega)
theorem H0{α:Type}{f:α->List D}(h:∀a,∀d∈f a,∃x,d=.v x){l:List (List D)}{xs:List α}(aj:l=xs.map f):Flat l:=aj▸dy f h xs
theorem XI{w:Int}{n:bW}(h1:c.news.findIdx? (fun n=>n.dest==w)=some i)(bI:cr c=true)(aP:c.news[i]?=some n)(aa:b0 c w=some x):jU c w=(gA (setW c w (ea x n)) (cutAt c.news i),true):=by
 unfold jU;simp only[h1,bI,fU,aP,aa]
theorem asl(c:aV)(w:Int)(al:c.sz<=8388608):cH prog 247 [.ref (fT c) (fT (jU c w).1),.ro (.one (I w))] (.vals [.one (B (jU c w).2)]):=by
 have aj:=yc al;have FZ:=fun h=>W2 (c:=c) (w:=w) h
 cases bI:cr c with
 | false=>
  have e:jU c w=(c,false):=by
   unfold jU;split<;>simp[bI]
  rw[e];simp only[fT,bI];cases aP:c.news with
  | nil=>
   have l:cN prog (ap f247 0) (r4 w 0 (c.ax.nodes.map Node.e) c.ax.ao c.ax.cap (c.ao.map aN.e) (c.bQ.map bC.e) (c.tokens.map bO.e) (c.news.map bW.e) false) (.exit 0) _:=.last (ci 0) (Xg ⟨by simp[aP],ad⟩);exact Pv ⟨l,ad⟩
  | cons a l=>
   have l:cN prog (ap f247 0) (r4 w 0 (c.ax.nodes.map Node.e) c.ax.ao c.ax.cap (c.ao.map aN.e) (c.bQ.map bC.e) (c.tokens.map bO.e) (c.news.map bW.e) false) (.exit 0) _:=.last (ci 0) (apP ⟨dc (by simp[aP]<;>omega),rfl,ad⟩);exact Pv ⟨l,ad⟩
 | true=>
  have FZ:=FZ bI;have l:=hf (P:=prog) (c:=(ap f247 0)) c.news (fun n=>n.dest==w) (fun i=>r4 w i (c.ax.nodes.map Node.e) c.ax.ao c.ax.cap (c.ao.map aN.e) (c.bQ.map bC.e) (c.tokens.map bO.e) (c.news.map bW.e) true)
   (X:=fun i n=>match b0 c w with
    | some x=>Is true (c.ax.nodes.map Node.e) c.ax.ao c.ax.cap ((setW c w (ea x n)).ao.map aN.e) (c.bQ.map bC.e) (c.tokens.map bO.e) ((cutAt c.news i).map bW.e) true
    | none=>⟨[],[]⟩) eZ (ci 0)
   (fun i a ae h=>aol ⟨bT (a6 ae),rfl,bx,bA (a6 ae),bw bW.e ae,by simp only[bne,h];rfl,cP (a6 ae) aj,ad⟩)
   (fun i a ae h=>by
    obtain⟨x,aa⟩:=PS bI ae h;have hi:=a6 ae;obtain⟨w0,w1,hM⟩:=mQ aa;have ai:=nG aa al;simp only[aa];rw[<-asj hi];cases aF:eC x a.aU with
    | true=>
     rw[show ea x a=x by unfold ea;rw[aF];rfl,uP aa];exact apO ⟨bT hi,rfl,bx,bA hi,bw bW.e ae,by simp only[bne,h];rfl,by simp,by simp,by simp;omega,by simp;omega,by simp;omega,H0 (xs:=c.news.take i) bW.flat (by simp),cP hi aj,by simp;omega,by simp;omega,by simp,by simp;omega,by simp;omega,H0 (xs:=c.news.drop (i+1)) bW.flat XH,w0,w1,hM,Pc x a.aU true aF ai,rfl,ad⟩
    | false=>
     have rn:x.b1.length<=8388608:=by simp only[aN.sz]at ai;omega
     have e2:(setW c w (ea x a)).ao.map aN.e=(c.ao.map aN.e).set w.toNat (told x a.aU a.b7).e:=by
      rw[show ea x a=told x a.aU a.b7 by unfold ea;rw[aF];rfl];exact PR.symm
     rw[e2];have cx:(told x a.aU a.b7).e=[.J 5 (x.queue.map ay.e),.J 5 (x.cj.map ay.e),.J 5 (x.bX.map ay.e),.J 4 (x.cells.map Cell.e),.J 1 (x.bP.map bd),.J 1 (x.bV.map cF),.J 1 (x.bl.map cF),.J 2 (x.b1.map cz.e++[[I a.aU,B a.b7]])]:=by
      simp only[told,aN.e,gF];rfl
     rw[cx];exact apN ⟨bT hi,rfl,bx,bA hi,bw bW.e ae,by simp only[bne,h];rfl,by simp,by simp,by simp;omega,by simp;omega,by simp;omega,H0 (xs:=c.news.take i) bW.flat (by simp),cP hi aj,by simp;omega,by simp;omega,by simp,by simp;omega,by simp;omega,H0 (xs:=c.news.drop (i+1)) bW.flat XH,w0,w1,hM,Pc x a.aU false aF ai,rfl,w0,w1,hM,by simp;omega,by simp;omega,hM,rfl,fA (cz.flat ⟨a.aU,a.b7⟩),rfl,rfl,rfl,rfl,rfl,rfl,rfl,rfl,rfl,rfl,rfl,w0,w1,hM,rfl,ad⟩)
   (Xg ⟨dq,ad⟩)
  rcases l with⟨_,h1,_,U⟩ | ⟨i,a,ae,hp,_,h1,_,U⟩
  ·have e:jU c w=(c,false):=by unfold jU;simp only[h1]
   rw[e];simp only[fT,bI];exact Pv ⟨U,ad⟩
  obtain⟨x,aa⟩:=PS bI ae hp;rw[XI h1 bI ae aa]at FZ ⊢;simp only[aa]at U;simp only[fT,bI,FZ];exact apQ ⟨U,ad⟩
theorem asm(c:aV)(w:Int)(al:c.sz<=8388608)(hw:ga c):av 224 [.agg c.e,.one (I w)] [.agg (jU c w).1.e,.one (B (jU c w).2)]:=by
 have aj:=yc al;have cK:=r5 c al;have lQ:=afy c.news (fun n=>n.dest==w) 295 [.ptr [I w]] aj (by kernel_rfl) (fun x _=>apR trivial);have ok:=Il c al hw;unfold nq at lQ;cases h1:c.news.findIdx? (fun n=>n.dest==w) with
 | none=>
  simp only[h1]at lQ;rw[show jU c w=(c,false) by unfold jU;simp only[h1]];exact apS ⟨cK,lQ,dc (by omega),ad⟩
 | some i=>
  simp only[h1]at lQ;cases bI:cr c with
  | false=>
   rw[bI]at ok;rw[show jU c w=(c,false) by unfold jU;simp[h1,bI]];exact apT ⟨cK,lQ,dE (by omega),ok,rfl,ad⟩
  | true=>
   rw[bI]at ok;obtain⟨hi,hp,_⟩:=u6.1 h1;have ae:c.news[i]?=some c.news[i]:=jA hi;generalize c.news[i]=a at ae hp;obtain⟨x,aa⟩:=PS bI ae hp;obtain⟨w0,w1,hM⟩:=mQ aa;have ai:=nG aa al;rw[XI h1 bI ae aa];have dl:=aqR c.news i (i+1) (by omega) (by omega);rw[show (((i+1:Nat):Int))=(i:Int)+1 by omega]at dl;cases aF:eC x a.aU with
   | true=>
    rw[show ea x a=x by unfold ea;rw[aF];rfl,uP aa];exact apV ⟨cK,lQ,dE (by omega),ok,rfl,bx,bA hi,bw bW.e ae,cP hi aj,dl,w0,w1,hM,HZ x a.aU true aF ai,rfl,ad⟩
   | false=>
    have rn:x.b1.length<=8388608:=by simp only[aN.sz]at ai;omega
    have e2:(setW c w (ea x a)).ao.map aN.e=(c.ao.map aN.e).set w.toNat (told x a.aU a.b7).e:=by
     rw[show ea x a=told x a.aU a.b7 by unfold ea;rw[aF];rfl];exact PR.symm
    have cx:(told x a.aU a.b7).e=[.J 5 (x.queue.map ay.e),.J 5 (x.cj.map ay.e),.J 5 (x.bX.map ay.e),.J 4 (x.cells.map Cell.e),.J 1 (x.bP.map bd),.J 1 (x.bV.map cF),.J 1 (x.bl.map cF),.J 2 (x.b1.map cz.e++[[I a.aU,B a.b7]])]:=by
     simp only[told,aN.e,gF];rfl
    have eD:(gA (setW c w (ea x a)) (cutAt c.news i)).e=[.J 4 (c.ax.nodes.map Node.e),I c.ax.ao,I c.ax.cap,.J 8 ((c.ao.map aN.e).set w.toNat (told x a.aU a.b7).e),.J 6 (c.bQ.map bC.e),.J 5 (c.tokens.map bO.e),.J 3 ((cutAt c.news i).map bW.e)]:=by
     rw[<-e2];rfl
    rw[eD,cx];exact apU ⟨cK,lQ,dE (by omega),ok,rfl,bx,bA hi,bw bW.e ae,cP hi aj,dl,w0,w1,hM,HZ x a.aU false aF ai,rfl,w0,w1,hM,by simp;omega,by simp;omega,hM,rfl,fA (cz.flat ⟨a.aU,a.b7⟩),rfl,rfl,rfl,rfl,rfl,rfl,rfl,rfl,w0,w1,hM,rfl,ad⟩
end Go.Proofs.YtdchjefneblpgaaGreat
namespace Go.Proofs.YtdchjefneblpgaaGreat
open Go.Sx Go.RowKit Go.Proofs.Tryz
theorem RG(a b:Nat):(((a:Int)+(b:Int))==0)=(a+b==0):=by
 rw[Bool.eq_iff_iff];simp only[iL];omega
theorem asn(w:aN)(e:Int)(hw:w.sz<=8388608):av 342 [.agg w.e,.one (I e)] [.one (B (yd w e))]:=by
 have aj:w.bX.length<=8388608:=by simp only[aN.sz]at hw;omega
 have l:=hf (P:=prog) (c:=(ap f342 0)) w.bX (fun r=>decide (r.bf.aU<=e)) (fun i=>yh (w.queue.map ay.e) (w.cj.map ay.e) (w.bX.map ay.e) (w.cells.map Cell.e) (w.bP.map bd) (w.bV.map cF) (w.bl.map cF) (w.b1.map cz.e) e i) (X:=fun _ _=>Pw true) eZ (ci 0)
  (fun i a ae h=>apJ ⟨bT (a6 ae),bx,bA (a6 ae),bw ay.e ae,h,cP (a6 ae) aj,ad⟩)
  (fun i a ae h=>apI ⟨bT (a6 ae),bx,bA (a6 ae),bw ay.e ae,h,ad⟩)
  (apK ⟨dq,ad⟩)
 unfold yd;rcases l with⟨_,_,h1,U⟩ | ⟨i,a,_,_,_,_,h1,U⟩
 ·rw[h1];exact apM ⟨U,ad⟩
 rw[h1];exact apL ⟨U,ad⟩
theorem aso(w:aN)(e:Int)(hw:w.sz<=8388608):av 331 [.agg w.e,.one (I e)] [.one (B (yd w e))]:=by
 have aj:w.bX.length<=8388608:=by simp only[aN.sz]at hw;omega
 exact apf ⟨afv w.bX (fun r=>decide (r.bf.aU<=e)) 353 [.ptr [I e]] aj (by kernel_rfl) (fun x _=>apg trivial),ad⟩
theorem asp(w:aN)(e:Int)(hw:w.sz<=8388608):av 343 [.agg w.e,.one (I e)] [.one (I ((↑((iI e w.queue).map ay.e).length:Int)+(↑((iI e w.cj).map ay.e).length:Int)))]:=by
 simp only[aN.sz]at hw;have b8:(iI e w.queue).length<=w.queue.length:=l3 _ _;have bt:(iI e w.cj).length<=w.cj.length:=l3 _ _;exact ape ⟨Xo w.queue e (by omega),Xo w.cj e (by omega),⟨by simp only[cp];omega,by simp only[cp];omega⟩,ad⟩
theorem asq(w:aN)(e:Int)(hw:w.sz<=8388608):av 316 [.agg w.e,.one (I e)] [.one (B (kH w e))]:=by
 have o:=asn w e hw;unfold kH;cases h:yd w e with
 | true=>rw[h]at o;exact apd ⟨o,rfl,ad⟩
 | false=>
  rw[h]at o;have a:=asp w e hw;rw[cp,cp]at a;have b:=apc ⟨o,rfl,a,ad⟩;rw[RG]at b;exact b
theorem atS(w:aN)(e:Int)(hw:w.sz<=8388608):av 332 [.agg w.e,.one (I e)] [.one (I ((↑((iI e w.queue).map ay.e).length:Int)+(↑((iI e w.cj).map ay.e).length:Int)))]:=by
 simp only[aN.sz]at hw;have b8:(iI e w.queue).length<=w.queue.length:=l3 _ _;have bt:(iI e w.cj).length<=w.cj.length:=l3 _ _;exact apj ⟨Ig w.queue e (by omega),Ig w.cj e (by omega),⟨by simp only[cp];omega,by simp only[cp];omega⟩,ad⟩
theorem atT(w:aN)(e:Int)(hw:w.sz<=8388608):av 294 [.agg w.e,.one (I e)] [.one (B (kH w e))]:=by
 have o:=aso w e hw;unfold kH;cases h:yd w e with
 | true=>rw[h]at o;exact api ⟨o,rfl,ad⟩
 | false=>
  rw[h]at o;have a:=atS w e hw;rw[cp,cp]at a;have b:=aph ⟨o,rfl,a,ad⟩;rw[RG]at b;exact b
theorem XJ(w:aN)(e:Int)(r:Bool)(h:kH w e=r)(hw:w.sz<=8388608):av 316 [.agg w.e,.one (I e)] [.one (B r)]:=h▸asq w e hw
theorem XK(w:aN)(e:Int)(r:Bool)(h:kH w e=r)(hw:w.sz<=8388608):av 294 [.agg w.e,.one (I e)] [.one (B r)]:=h▸atT w e hw
end Go.Proofs.YtdchjefneblpgaaGreat
namespace Go.Proofs.YtdchjefneblpgaaGreat
open Go.Sx Go.RowKit Go.Proofs.Tryz
variable{c:aV}{i:Int}
theorem XL{t:bO}(h:h4 c i=some t):0<=i/\i<(↑(c.tokens.map bO.e).length:Int)/\(c.tokens.map bO.e)[i.toNat]?=some t.e:=by
 obtain⟨h1,U,aA⟩:=ye h;exact⟨h1,by rw[cp];omega,bL bO.e aA⟩
variable{e:Int}
theorem CD{xs:List Int}(aI:xs.length=4)(he:0<=e/\e<=3):e<(↑(xs.map bd).length:Int)/\(xs.map bd)[e.toNat]?=some [I (xs.getD e.toNat 0)]:=by
 have aj:e.toNat<xs.length:=by omega
 refine⟨by rw[cp];omega,?_⟩;rw[eg,jA aj,lZ,jA aj];rfl
theorem vh{xs:List Bool}(aI:xs.length=4)(he:0<=e/\e<=3):e<(↑(xs.map cF).length:Int)/\(xs.map cF)[e.toNat]?=some [B (xs.getD e.toNat false)]:=by
 have aj:e.toNat<xs.length:=by omega
 refine⟨by rw[cp];omega,?_⟩;rw[eg,jA aj,lZ,jA aj];rfl
variable{l:List (List D)}{a:List D}
theorem ia(bE:0<=i)(h:i<(↑l.length:Int)):(l.set i.toNat a)[i.toNat]?=some a:=List.getElem?_set_self (by omega)
theorem vp{b:List D}(bE:0<=i)(h:i<(↑l.length:Int)):((l.set i.toNat a).set i.toNat b)[i.toNat]?=some b:=by rw[qT];exact ia bE h
theorem vq{b d:List D}(bE:0<=i)(h:i<(↑l.length:Int)):(((l.set i.toNat a).set i.toNat b).set i.toNat d)[i.toNat]?=some d:=by rw[qT,qT];exact ia bE h
theorem H2(x:aN)(e:Int):(ez x e).e=[.J 5 (x.queue.map ay.e),.J 5 (x.cj.map ay.e),.J 5 (x.bX.map ay.e),.J 4 (x.cells.map Cell.e),.J 1 (x.bP.map bd),.J 1 ((x.bV.map cF).set e.toNat [B false]),.J 1 (x.bl.map cF),.J 2 (x.b1.map cz.e)]:=by
 simp only[ez,aN.e,ks];rfl
theorem XM(x:aN)(e:Int)(b:Bool):(told x e b).e=[.J 5 (x.queue.map ay.e),.J 5 (x.cj.map ay.e),.J 5 (x.bX.map ay.e),.J 4 (x.cells.map Cell.e),.J 1 (x.bP.map bd),.J 1 (x.bV.map cF),.J 1 (x.bl.map cF),.J 2 (x.b1.map cz.e++[[I e,B b]])]:=by
 simp only[told,aN.e,gF];rfl
theorem XN(c:aV)(e p:Int)(t:bO)(y:aN):(setW (cO c e t) p y).e=[.J 4 (c.ax.nodes.map Node.e),I c.ax.ao,I c.ax.cap,.J 8 ((c.ao.map aN.e).set p.toNat y.e),.J 6 (c.bQ.map bC.e),.J 5 ((c.tokens.map bO.e).set e.toNat t.e),.J 3 (c.news.map bW.e)]:=by
 simp only[setW,cO,aV.e,ks]
theorem PT(c:aV)(e:Int)(t:bO):(cO c e t).e=[.J 4 (c.ax.nodes.map Node.e),I c.ax.ao,I c.ax.cap,.J 8 (c.ao.map aN.e),.J 6 (c.bQ.map bC.e),.J 5 ((c.tokens.map bO.e).set e.toNat t.e),.J 3 (c.news.map bW.e)]:=by
 simp only[cO,aV.e,ks]
theorem XO(c:aV)(e p:Int)(t:bO)(y:aN)(b:Bool):nI (setW (cO c e t) p y) b=[.J 4 (c.ax.nodes.map Node.e),I c.ax.ao,I c.ax.cap,.J 8 ((c.ao.map aN.e).set p.toNat y.e),.J 6 (c.bQ.map bC.e),.J 5 ((c.tokens.map bO.e).set e.toNat t.e),.J 3 (c.news.map bW.e),B b]:=by
 simp only[setW,cO,nI,ks]
theorem atU(c:aV)(e:Int)(t:bO)(b:Bool):nI (cO c e t) b=[.J 4 (c.ax.nodes.map Node.e),I c.ax.ao,I c.ax.cap,.J 8 (c.ao.map aN.e),.J 6 (c.bQ.map bC.e),.J 5 ((c.tokens.map bO.e).set e.toNat t.e),.J 3 (c.news.map bW.e),B b]:=by
 simp only[cO,nI,ks]
theorem PU(n:Nat)(e:Int)(b:Bool):gf (n+1) e b=gf n e b++[⟨(n:Int)+1,e,b⟩]:=by simp[gf,List.range_succ]
theorem PV(n:Nat)(e:Int)(b:Bool):(gf n e b).length=n:=by simp[gf]
theorem XP{cv x:aN}{t:bO}(ok:cr c=true)(he:aw e 0 3=true)(bE:b0 c 0=some cv)(bG:h4 c e=some t)(aF:eC cv e=false)(aa:b0 c t.place=some x):ix c e=dB c e t x:=by
 unfold ix;simp only[ok,he,Bool.and_self,fU,bE,bG,aF,oh,mr,aa]
theorem XQ(ok:cr c=true)(he:aw e 0 3=true):∃cv t x,b0 c 0=some cv/\h4 c e=some t/\b0 c t.place=some x/\0<c.ao.length/\c.ao.length<=4/\
  (0<=t.place/\t.place<=3)/\(t.going=false->t.place=0)/\(-1000000<=t.sum/\t.sum<=1000000)/\x.bP.length=4/\x.bV.length=4/\x.bl.length=4/\(-1000000<=x.bP.getD e.toNat 0/\x.bP.getD e.toNat 0<=1000000):=by
 obtain⟨h1,U,aA,aI,a',bu,bU,cI⟩:=fe.1 ok;have aP:=ih h1;obtain⟨cv,bE⟩:=oV (c:=c) (i:=0) (by omega) (by omega);obtain⟨t,bG⟩:=XG ok he;obtain⟨t1,t2,t3⟩:=tg.1 (Ak ok bG);obtain⟨x,aa⟩:=oV (c:=c) (i:=t.place) (by omega) (by omega);obtain⟨_,_,_,_,k5,nt,mh,_,uo,_⟩:=h3.1 (iJ ok aa);refine⟨cv,t,x,bE,bG,aa,by omega,by omega,by omega,t2,t3,k5,nt,mh,?_⟩;simp only[aw,cc]at he;have aj:e.toNat<x.bP.length:=by omega
 rw[fm]at uo;have:=uo _ (p5 aj);rw[lZ,jA aj,l0];simpa only[oU,gQ,jf,aw,cc,wX,Bool.not_not,Bool.not_eq_eq_eq_not,jg,l4,Classical.not_not]using this
theorem Zf(c:aV)(e:Int)(x:aN)(r:Bool)(bE:b0 c 0=some x)(aF:eC x e=r)(al:c.sz<=8388608):av 315 [.agg c.e,.one (I e)] [.one (B r)]:=by
 obtain⟨w0,w1,hM⟩:=mQ bE;exact apH ⟨dc (by omega),w0,w1,hM,Pc x e r aF (nG bE al),ad⟩
theorem atV(c:aV)(b:Bool)(x:aN)(e:Int)(cap:Bool)(bE:b0 c 0=some x)(aI:c.ao.length<=4)(al:c.sz<=8388608):
  cH prog 317 [.ref (nI c b) (nI (gA (setW c 0 (told x e cap)) (c.news++gf (c.ao.length-1) e cap)) b),.ro (.one (I e)),.ro (.one (B cap))] (.vals []):=by
 obtain⟨w0,w1,hM⟩:=mQ bE;have aP:=yc al;have ai:=nG bE al;have rn:x.b1.length<=8388608:=by simp only[aN.sz]at ai;omega
 have hlen:=(dU bE).2.1;have vu:((setW c 0 (told x e cap)).ao.map aN.e).length=c.ao.length:=by simp[setW]
 have l:=dO (P:=prog) (c:=(ap f317 0)) (ci 0) (c.ao.length-1) (fun i:Nat=>D6 e cap ((i:Int)+1) (c.ax.nodes.map Node.e) c.ax.ao c.ax.cap ((setW c 0 (told x e cap)).ao.map aN.e) (c.bQ.map bC.e) (c.tokens.map bO.e) ((c.news++gf i e cap).map bW.e) b) (fun i hi=>by
  have hm:=PV i e cap;rw[PU,<-o5,gF (l₂:=[_])];exact apW ⟨dc (by rw[vu];omega),by simp;omega,by simp;omega,fA (bW.flat ⟨(i:Int)+1,e,cap⟩),⟨by omega,by omega⟩,ad⟩) (apX ⟨dE (by rw[vu];omega),ad⟩)
 have e2:(setW c 0 (told x e cap)).ao.map aN.e=(c.ao.map aN.e).set 0 [.J 5 (x.queue.map ay.e),.J 5 (x.cj.map ay.e),.J 5 (x.bX.map ay.e),.J 4 (x.cells.map Cell.e),.J 1 (x.bP.map bd),.J 1 (x.bV.map cF),.J 1 (x.bl.map cF),.J 2 (x.b1.map cz.e++[[I e,B cap]])]:=by
  rw[<-XM];exact PR.symm
 have cd:gf 0 e cap=[]:=rfl;rw[e2,cd,gR]at l;have iS:nI (gA (setW c 0 (told x e cap)) (c.news++gf (c.ao.length-1) e cap)) b=[.J 4 (c.ax.nodes.map Node.e),I c.ax.ao,I c.ax.cap,.J 8 ((setW c 0 (told x e cap)).ao.map aN.e),.J 6 (c.bQ.map bC.e),.J 5 (c.tokens.map bO.e),.J 3 ((c.news++gf (c.ao.length-1) e cap).map bW.e),B b]:=rfl;rw[iS,e2];exact apY ⟨by omega,w1,hM,by simp;omega,by simp;omega,hM,rfl,fA (cz.flat ⟨e,cap⟩),rfl,rfl,rfl,rfl,rfl,rfl,rfl,by omega,w1,hM,rfl,l,ad⟩
theorem atW(c:aV)(e:Int)(al:c.sz<=8388608):cH prog 246 [.ref (fT c) (fT (ix c e).1),.ro (.one (I e))] (.vals [.one (B (ix c e).2)]):=by
 have post:=fun h=>W1 (c:=c) (e:=e) h
 cases ok:cr c with
 | false=>
  rw[show ix c e=(c,false) by unfold ix;simp[ok]];simp only[fT,ok];exact apZ ⟨rfl,ad⟩
 | true=>
 replace post:=post ok;cases he:aw e 0 3 with
 | false=>
  rw[show ix c e=(c,false) by unfold ix;simp[he]];simp only[fT,ok];exact ap0 ⟨rfl,gp _ _ _ _ he,rfl,ad⟩
 | true=>
 have he:=he;obtain⟨cv,t,x,bE,bG,aa,zy,vC,F1,KD,aeh,rF,tX,zp,zH⟩:=XQ ok he;have rq:0<=e/\e<=3:=by simpa only[aw,cc]using he
 obtain⟨cn,dJ,dv⟩:=XL bG;obtain⟨c4,db,ck⟩:=mQ aa;obtain⟨aBY,o1,o2⟩:=mQ bE;obtain⟨j2,j3⟩:=CD rF rq;obtain⟨kg,iG⟩:=vh tX rq;obtain⟨tK,tL⟩:=vh zp rq;have dN:=nG aa al;have rn:x.b1.length<=8388608:=by simp only[aN.sz]at dN;omega
 have FV:(↑(c.ao.map aN.e).length:Int)=(c.ao.length:Int):=by rw[cp]
 cases aF:eC cv e with
 | true=>
  rw[show ix c e=(c,false) by unfold ix;simp only[ok,he,Bool.and_self,fU,bE,bG,aF]];simp only[fT,ok];exact ap1 ⟨rfl,gp _ _ _ _ he,rfl,Zf c e cv true bE aF al,rfl,ad⟩
 | false=>
 rw[XP ok he bE bG aF aa]at post ⊢;have rd:=Zf c e cv false bE aF al;have je:=gp _ _ _ _ he;cases hp:kH x e with
 | false=>
  rw[show dB c e t x=(c,false) by unfold dB;simp[hp]];simp only[fT,ok];exact ap2 ⟨rfl,je,rfl,rd,rfl,cn,dJ,dv,c4,db,ck,XJ x e _ hp dN,rfl,ad⟩
 | true=>
 have km:=XJ x e _ hp dN;have il:aJ .i64 (t.sum+x.bP.getD e.toNat 0):=⟨by omega,by omega⟩
 simp only[fT,ok,post];clear post;obtain⟨IN,mq,ts,tb,eM⟩:=t;dsimp only at*;cases IN with
 | false=>
  obtain rfl:mq=0:=KD rfl;rw[show dB c e ⟨false,0,ts,tb,eM⟩ x=(setW (cO c e ⟨true,(c.ao.length:Int)-1,0,false,x.bl.getD e.toNat false⟩) 0 (ez x e),true) by simp only[dB,hp,fU,o6]];dsimp only;rw[XO,H2,<-FV];exact ap3 ⟨rfl,je,rfl,rd,rfl,cn,dJ,dv,c4,db,ck,km,rfl,cn,j2,j3,il,rfl,⟨by omega,by omega⟩,cn,tK,tL,cn,dJ,dv,by omega,db,ck,cn,kg,iG,ck,rfl,rfl,rfl,rfl,rfl,ad⟩
 | true=>
 by_cases mF:0<mq
 case pos=>
  have j8:decide (mq>0)=true:=dc mF;cases aB:aw (ts+x.bP.getD e.toNat 0) (-1000000) 1000000 with
  | false=>
   rw[show dB c e ⟨true,mq,ts,tb,eM⟩ x=(c,false) by simp only[dB,hp,fU,jg,oh,mr,mF,aB]];exact ap4 ⟨rfl,je,rfl,rd,rfl,cn,dJ,dv,c4,db,ck,km,rfl,cn,j2,j3,il,rfl,j8,gp _ _ _ _ aB,rfl,ad⟩
  | true=>
   have e1:dB c e ⟨true,mq,ts,tb,eM⟩ x=(setW (cO c e ⟨true,mq-1,ts+x.bP.getD e.toNat 0,tb||x.bV.getD e.toNat false,eM||x.bl.getD e.toNat false⟩) mq (ez x e),true):=by
    simp only[dB,hp,fU,jg,oh,mr,mF,aB]
   rw[e1];dsimp only;rw[XO,H2];have wr:=gp _ _ _ _ aB;cases tb with
   | true=>
    cases eM with
    | true=>exact ap5 ⟨rfl,je,rfl,rd,rfl,cn,dJ,dv,c4,db,ck,km,rfl,cn,j2,j3,il,rfl,j8,wr,rfl,⟨by omega,by omega⟩,rfl,rfl,cn,dJ,dv,c4,db,ck,cn,kg,iG,ck,rfl,rfl,rfl,rfl,rfl,ad⟩
    | false=>exact ap6 ⟨rfl,je,rfl,rd,rfl,cn,dJ,dv,c4,db,ck,km,rfl,cn,j2,j3,il,rfl,j8,wr,rfl,⟨by omega,by omega⟩,rfl,rfl,cn,tK,tL,cn,dJ,dv,c4,db,ck,cn,kg,iG,ck,rfl,rfl,rfl,rfl,rfl,ad⟩
   | false=>
    cases eM with
    | true=>exact ap7 ⟨rfl,je,rfl,rd,rfl,cn,dJ,dv,c4,db,ck,km,rfl,cn,j2,j3,il,rfl,j8,wr,rfl,⟨by omega,by omega⟩,rfl,cn,kg,iG,rfl,cn,dJ,dv,c4,db,ck,cn,kg,iG,ck,rfl,rfl,rfl,rfl,rfl,rfl,rfl,ad⟩
    | false=>exact ap8 ⟨rfl,je,rfl,rd,rfl,cn,dJ,dv,c4,db,ck,km,rfl,cn,j2,j3,il,rfl,j8,wr,rfl,⟨by omega,by omega⟩,rfl,cn,kg,iG,rfl,cn,tK,tL,cn,dJ,dv,c4,db,ck,cn,kg,iG,ck,rfl,rfl,rfl,rfl,rfl,rfl,rfl,ad⟩
 case neg=>
  obtain rfl:mq=0:=by omega
  have j8:decide ((0:Int)>0)=false:=rfl;have e1:=fun b=>atU c e ⟨false,0,ts,tb,eM⟩ b
  have ends:=fun cap=>atV (cO c e ⟨false,0,ts,tb,eM⟩) true x e cap (DW.trans aa) vC (by rw[Iq];exact al)
  rw[e1]at ends;cases tb with
  | true=>
   rw[show dB c e ⟨true,0,ts,true,eM⟩ x=(cO c e ⟨false,0,ts,true,eM⟩,true) by simp[dB,hp]];dsimp only;rw[e1];exact apm ⟨rfl,je,rfl,rd,rfl,cn,dJ,dv,c4,db,ck,km,rfl,cn,j2,j3,il,rfl,j8,cn,dJ,dv,rfl,ad⟩
  | false=>
  cases hk:x.bV.getD e.toNat false with
  | true=>
   rw[hk]at iG;rw[show dB c e ⟨true,0,ts,false,eM⟩ x=(cO c e ⟨false,0,ts,false,eM⟩,true) by unfold dB;simp only[hp,hk];rfl];dsimp only;rw[e1];exact aqc ⟨rfl,je,rfl,rd,rfl,cn,dJ,dv,c4,db,ck,km,rfl,cn,j2,j3,il,rfl,j8,cn,dJ,dv,rfl,cn,kg,iG,rfl,ad⟩
  | false=>
  rw[hk]at iG;cases aL:(ts+x.bP.getD e.toNat 0==0) with
  | false=>
   rw[show dB c e ⟨true,0,ts,false,eM⟩ x=(cO c e ⟨false,0,ts,false,eM⟩,true) by unfold dB;simp only[hp,hk,aL];rfl];dsimp only;rw[e1];exact aqb ⟨rfl,je,rfl,rd,rfl,cn,dJ,dv,c4,db,ck,km,rfl,cn,j2,j3,il,rfl,j8,cn,dJ,dv,rfl,cn,kg,iG,rfl,aL,ad⟩
  | true=>
  rw[show dB c e ⟨true,0,ts,false,eM⟩ x=(gA (setW (cO c e ⟨false,0,ts,false,eM⟩) 0 (told x e (eM||x.bl.getD e.toNat false))) (c.news++gf (c.ao.length-1) e (eM||x.bl.getD e.toNat false)),true) by unfold dB;simp only[hp,hk,aL];rfl];cases eM with
  | true=>exact ap9 ⟨rfl,je,rfl,rd,rfl,cn,dJ,dv,c4,db,ck,km,rfl,cn,j2,j3,il,rfl,j8,cn,dJ,dv,rfl,cn,kg,iG,rfl,aL,rfl,ends true,ad⟩
  | false=>exact aqa ⟨rfl,je,rfl,rd,rfl,cn,dJ,dv,c4,db,ck,km,rfl,cn,j2,j3,il,rfl,j8,cn,dJ,dv,rfl,cn,kg,iG,rfl,aL,rfl,cn,tK,tL,ends _,ad⟩
theorem atX(c:aV)(e:Int)(W T:List (List D))(hlen:0<c.ao.length)(aI:c.ao.length<=4)(al:c.sz<=8388608):cN prog (ap f223 0) (Aq e 1 (c.ax.nodes.map Node.e) c.ax.ao c.ax.cap W (c.bQ.map bC.e) T (c.news.map bW.e) 0 0 (c.ax.nodes.map Node.e) c.ax.ao c.ax.cap (c.ao.map aN.e) (c.bQ.map bC.e) (c.tokens.map bO.e) (c.news.map bW.e)) (.exit 1) (Ar (c.ax.nodes.map Node.e) c.ax.ao c.ax.cap W (c.bQ.map bC.e) T ((c.news++gf (c.ao.length-1) e true).map bW.e) 0 0):=by
 have aP:=yc al;have l:=dO (P:=prog) (c:=(ap f223 0)) (ci 1) (c.ao.length-1) (fun i:Nat=>Aq e ((i:Int)+1) (c.ax.nodes.map Node.e) c.ax.ao c.ax.cap W (c.bQ.map bC.e) T ((c.news++gf i e true).map bW.e) 0 0 (c.ax.nodes.map Node.e) c.ax.ao c.ax.cap (c.ao.map aN.e) (c.bQ.map bC.e) (c.tokens.map bO.e) (c.news.map bW.e)) (fun i hi=>by
  have hm:=PV i e true;rw[PU,<-o5,gF (l₂:=[_])];exact apy ⟨dc (by simp;omega),by simp;omega,by simp;omega,fA (bW.flat ⟨(i:Int)+1,e,true⟩),⟨by omega,by omega⟩,ad⟩) (apz ⟨dE (by simp;omega),ad⟩)
 have cd:gf 0 e true=[]:=rfl;rw[cd,gR]at l;exact l
theorem atY(c:aV)(e:Int)(cap:Bool)(W T:List (List D))(hlen:0<c.ao.length)(aI:c.ao.length<=4)(al:c.sz<=8388608):cN prog (ap f223 0) (As e cap 1 (c.ax.nodes.map Node.e) c.ax.ao c.ax.cap W (c.bQ.map bC.e) T (c.news.map bW.e) 0 0 (c.ax.nodes.map Node.e) c.ax.ao c.ax.cap (c.ao.map aN.e) (c.bQ.map bC.e) (c.tokens.map bO.e) (c.news.map bW.e)) (.exit 1) (Ar (c.ax.nodes.map Node.e) c.ax.ao c.ax.cap W (c.bQ.map bC.e) T ((c.news++gf (c.ao.length-1) e cap).map bW.e) 0 0):=by
 have aP:=yc al;have l:=dO (P:=prog) (c:=(ap f223 0)) (ci 1) (c.ao.length-1) (fun i:Nat=>As e cap ((i:Int)+1) (c.ax.nodes.map Node.e) c.ax.ao c.ax.cap W (c.bQ.map bC.e) T ((c.news++gf i e cap).map bW.e) 0 0 (c.ax.nodes.map Node.e) c.ax.ao c.ax.cap (c.ao.map aN.e) (c.bQ.map bC.e) (c.tokens.map bO.e) (c.news.map bW.e)) (fun i hi=>by
  have hm:=PV i e cap;rw[PU,<-o5,gF (l₂:=[_])];exact apB ⟨dc (by simp;omega),by simp;omega,by simp;omega,fA (bW.flat ⟨(i:Int)+1,e,cap⟩),⟨by omega,by omega⟩,ad⟩) (apC ⟨dE (by simp;omega),ad⟩)
 have cd:gf 0 e cap=[]:=rfl;rw[cd,gR]at l;exact l
theorem atZ(c:aV)(e:Int)(al:c.sz<=8388608)(hw:ga c):av 223 [.agg c.e,.one (I e)] [.agg (ix c e).1.e,.one (B (ix c e).2)]:=by
 have cK:=r5 c al;have mI:=Il c al hw;cases ok:cr c with
 | false=>
  rw[ok]at mI;rw[show ix c e=(c,false) by unfold ix;simp[ok]];exact apn ⟨cK,mI,rfl,ad⟩
 | true=>
 rw[ok]at mI;cases he:aw e 0 3 with
 | false=>
  rw[show ix c e=(c,false) by unfold ix;simp[he]];exact apo ⟨cK,mI,rfl,hX _ he,rfl,ad⟩
 | true=>
 have he:=he;obtain⟨cv,t,x,bE,bG,aa,zy,vC,F1,KD,aeh,rF,tX,zp,zH⟩:=XQ ok he;have rq:0<=e/\e<=3:=by simpa only[aw,cc]using he
 obtain⟨cn,dJ,dv⟩:=XL bG;obtain⟨c4,db,ck⟩:=mQ aa;obtain⟨aBY,o1,o2⟩:=mQ bE;obtain⟨j2,j3⟩:=CD rF rq;obtain⟨kg,iG⟩:=vh tX rq;obtain⟨tK,tL⟩:=vh zp rq;have dN:=nG aa al;have rn:x.b1.length<=8388608:=by simp only[aN.sz]at dN;omega
 have FV:(↑(c.ao.map aN.e).length:Int)=(c.ao.length:Int):=by rw[cp]
 have je:=hX _ he;cases aF:eC cv e with
 | true=>
  rw[show ix c e=(c,false) by unfold ix;simp only[ok,he,Bool.and_self,fU,bE,bG,aF]];exact apq ⟨cK,mI,rfl,je,rfl,by omega,o1,o2,HZ cv e true aF (nG bE al),rfl,ad⟩
 | false=>
 have c0:=HZ cv e false aF (nG bE al);rw[XP ok he bE bG aF aa];cases hp:kH x e with
 | false=>
  rw[show dB c e t x=(c,false) by unfold dB;simp[hp]];exact apr ⟨cK,mI,rfl,je,rfl,by omega,o1,o2,c0,rfl,cn,dJ,dv,c4,db,ck,XK x e _ hp dN,rfl,ad⟩
 | true=>
 have km:=XK x e _ hp dN;have il:aJ .i64 (t.sum+x.bP.getD e.toNat 0):=⟨by omega,by omega⟩
 obtain⟨IN,mq,ts,tb,eM⟩:=t;dsimp only at*;cases IN with
 | false=>
  obtain rfl:mq=0:=KD rfl;rw[show dB c e ⟨false,0,ts,tb,eM⟩ x=(setW (cO c e ⟨true,(c.ao.length:Int)-1,0,false,x.bl.getD e.toNat false⟩) 0 (ez x e),true) by simp only[dB,hp,fU,o6]];dsimp only;rw[XN,H2,<-FV];exact aps ⟨cK,mI,rfl,je,rfl,by omega,o1,o2,c0,rfl,cn,dJ,dv,c4,db,ck,km,rfl,dv,rfl,ck,cn,tK,tL,⟨by omega,by omega⟩,dv,ck,cn,kg,iG,ck,rfl,rfl,rfl,ad⟩
 | true=>
 by_cases mF:0<mq
 case pos=>
  have j8:decide (mq>0)=true:=dc mF;cases aB:aw (ts+x.bP.getD e.toNat 0) (-1000000) 1000000 with
  | false=>
   rw[show dB c e ⟨true,mq,ts,tb,eM⟩ x=(c,false) by simp only[dB,hp,fU,jg,oh,mr,mF,aB]];exact apt ⟨cK,mI,rfl,je,rfl,by omega,o1,o2,c0,rfl,cn,dJ,dv,c4,db,ck,km,rfl,dv,rfl,dv,j8,dv,ck,cn,j2,j3,il,hX _ aB,rfl,ad⟩
  | true=>
   have e1:dB c e ⟨true,mq,ts,tb,eM⟩ x=(setW (cO c e ⟨true,mq-1,ts+x.bP.getD e.toNat 0,tb||x.bV.getD e.toNat false,eM||x.bl.getD e.toNat false⟩) mq (ez x e),true):=by
    simp only[dB,hp,fU,jg,oh,mr,mF,aB]
   rw[e1];dsimp only;rw[XN,H2];have wr:=hX _ aB;have b8:aJ .i64 (mq-1):=⟨by omega,by omega⟩
   cases tb with
   | true=>
    cases eM with
    | true=>
     have key:=apu ⟨cK,mI,rfl,je,rfl,by omega,o1,o2,c0,rfl,cn,dJ,dv,c4,db,ck,km,rfl,dv,rfl,dv,j8,dv,ck,cn,j2,j3,il,wr,rfl,dv,ck,cn,j2,j3,il,dv,ia cn dJ,rfl,ia cn dJ,vp cn dJ,rfl,vp cn dJ,ck,cn,kg,iG,ck,rfl,rfl,rfl,vq cn dJ,b8,vq cn dJ,ad⟩;simp only[qT]at key;exact key
    | false=>
     have key:=apv ⟨cK,mI,rfl,je,rfl,by omega,o1,o2,c0,rfl,cn,dJ,dv,c4,db,ck,km,rfl,dv,rfl,dv,j8,dv,ck,cn,j2,j3,il,wr,rfl,dv,ck,cn,j2,j3,il,dv,ia cn dJ,rfl,ia cn dJ,vp cn dJ,rfl,ck,cn,tK,tL,vp cn dJ,ck,cn,kg,iG,ck,rfl,rfl,rfl,vq cn dJ,b8,vq cn dJ,ad⟩;simp only[qT]at key;exact key
   | false=>
    cases eM with
    | true=>
     have key:=apw ⟨cK,mI,rfl,je,rfl,by omega,o1,o2,c0,rfl,cn,dJ,dv,c4,db,ck,km,rfl,dv,rfl,dv,j8,dv,ck,cn,j2,j3,il,wr,rfl,dv,ck,cn,j2,j3,il,dv,ia cn dJ,rfl,ck,cn,kg,iG,ia cn dJ,vp cn dJ,rfl,vp cn dJ,ck,cn,kg,iG,ck,rfl,rfl,rfl,rfl,rfl,vq cn dJ,b8,vq cn dJ,ad⟩;simp only[qT]at key;exact key
    | false=>
     have key:=apx ⟨cK,mI,rfl,je,rfl,by omega,o1,o2,c0,rfl,cn,dJ,dv,c4,db,ck,km,rfl,dv,rfl,dv,j8,dv,ck,cn,j2,j3,il,wr,rfl,dv,ck,cn,j2,j3,il,dv,ia cn dJ,rfl,ck,cn,kg,iG,ia cn dJ,vp cn dJ,rfl,ck,cn,tK,tL,vp cn dJ,ck,cn,kg,iG,ck,rfl,rfl,rfl,rfl,rfl,vq cn dJ,b8,vq cn dJ,ad⟩;simp only[qT]at key;exact key
 case neg=>
  obtain rfl:mq=0:=by omega
  have j8:decide ((0:Int)>0)=false:=rfl;cases tb with
  | true=>
   rw[show dB c e ⟨true,0,ts,true,eM⟩ x=(cO c e ⟨false,0,ts,true,eM⟩,true) by simp[dB,hp]];dsimp only;rw[PT];exact apG ⟨cK,mI,rfl,je,rfl,by omega,o1,o2,c0,rfl,cn,dJ,dv,c4,db,ck,km,rfl,dv,rfl,dv,j8,dv,ia cn dJ,rfl,ad⟩
  | false=>
  cases hk:x.bV.getD e.toNat false with
  | true=>
   rw[hk]at iG;rw[show dB c e ⟨true,0,ts,false,eM⟩ x=(cO c e ⟨false,0,ts,false,eM⟩,true) by unfold dB;simp only[hp,hk];rfl];dsimp only;rw[PT];exact apF ⟨cK,mI,rfl,je,rfl,by omega,o1,o2,c0,rfl,cn,dJ,dv,c4,db,ck,km,rfl,dv,rfl,dv,j8,dv,ia cn dJ,rfl,ck,cn,kg,iG,rfl,ad⟩
  | false=>
  rw[hk]at iG;cases aL:(ts+x.bP.getD e.toNat 0==0) with
  | false=>
   rw[show dB c e ⟨true,0,ts,false,eM⟩ x=(cO c e ⟨false,0,ts,false,eM⟩,true) by unfold dB;simp only[hp,hk,aL];rfl];dsimp only;rw[PT];exact apE ⟨cK,mI,rfl,je,rfl,by omega,o1,o2,c0,rfl,cn,dJ,dv,c4,db,ck,km,rfl,dv,rfl,dv,j8,dv,ia cn dJ,rfl,ck,cn,kg,iG,rfl,ia cn dJ,ck,cn,j2,j3,il,aL,ad⟩
  | true=>
  rw[show dB c e ⟨true,0,ts,false,eM⟩ x=(gA (setW (cO c e ⟨false,0,ts,false,eM⟩) 0 (told x e (eM||x.bl.getD e.toNat false))) (c.news++gf (c.ao.length-1) e (eM||x.bl.getD e.toNat false)),true) by unfold dB;simp only[hp,hk,aL];rfl];have eD:∀cap,(gA (setW (cO c e ⟨false,0,ts,false,eM⟩) 0 (told x e cap)) (c.news++gf (c.ao.length-1) e cap)).e=[.J 4 (c.ax.nodes.map Node.e),I c.ax.ao,I c.ax.cap,.J 8 ((c.ao.map aN.e).set 0 [.J 5 (x.queue.map ay.e),.J 5 (x.cj.map ay.e),.J 5 (x.bX.map ay.e),.J 4 (x.cells.map Cell.e),.J 1 (x.bP.map bd),.J 1 (x.bV.map cF),.J 1 (x.bl.map cF),.J 2 (x.b1.map cz.e++[[I e,B cap]])]),.J 6 (c.bQ.map bC.e),.J 5 ((c.tokens.map bO.e).set e.toNat (bO.e ⟨false,0,ts,false,eM⟩)),.J 3 ((c.news++gf (c.ao.length-1) e cap).map bW.e)]:=fun cap=>by
   rw[<-XM];simp only[gA,setW,cO,aV.e,ks];rfl
  cases eM with
  | true=>
   dsimp only[Bool.true_or];rw[eD];exact apA ⟨cK,mI,rfl,je,rfl,by omega,o1,o2,c0,rfl,cn,dJ,dv,c4,db,ck,km,rfl,dv,rfl,dv,j8,dv,ia cn dJ,rfl,ck,cn,kg,iG,rfl,ia cn dJ,ck,cn,j2,j3,il,aL,ia cn dJ,rfl,ck,by simp;omega,by simp;omega,ck,rfl,rfl,rfl,fA (cz.flat ⟨e,true⟩),ck,rfl,atX c e _ _ zy vC al,ad⟩
  | false=>
   dsimp only[jz];rw[eD];exact apD ⟨cK,mI,rfl,je,rfl,by omega,o1,o2,c0,rfl,cn,dJ,dv,c4,db,ck,km,rfl,dv,rfl,dv,j8,dv,ia cn dJ,rfl,ck,cn,kg,iG,rfl,ia cn dJ,ck,cn,j2,j3,il,aL,ia cn dJ,rfl,ck,cn,tK,tL,ck,by simp;omega,by simp;omega,ck,rfl,rfl,rfl,fA (cz.flat ⟨e,_⟩),ck,rfl,atY c e _ _ _ zy vC al,ad⟩
