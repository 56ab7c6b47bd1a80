import Derived.Test.YtdchjefneblpgaaGreatP42
import Derived.Test.YtdchjefneblpgaaGreatP43
import Derived.Test.YtdchjefneblpgaaGreatGY
set_option linter.unusedVariables false
set_option linter.unusedSimpArgs false
namespace Go.Proofs.YtdchjefneblpgaaGreat
open Go.Sx Go.RowKit Go.Proofs.Tryz
def fG(e:Int)(x:aK):Int:=x.bB.getD e.toNat 0
def gr(e:Int)(x:aK):Bool:=x.bL.getD e.toNat false
def ln(e:Int)(x:aK):Bool:=x.bj.getD e.toNat false
def gW(e:Int)(c:aT)(k:Nat):Int:=((c.ar.take k).map (fG e)).sum
def ja(e:Int)(c:aT):Nat:=dd (py e) c.bJ
def quiet(e:Int)(c:aT):Prop:=(∀x∈c.ar,ks x e=true)/\ja e c=0
def Good(e:Int)(c:aT)(t:bP):Prop:=
 ((∀(i:Nat) x,t.place<i->c.ar[i]?=some x->ks x e=true/\(ln e x=true->t.cf=true))/\gW e c (t.place+1).toNat+t.sum=ja e c)\/
 0<gW e c (t.place+1).toNat+t.sum\/(∃(i:Nat) (x:aK),(i:Int)<=t.place/\c.ar[i]?=some x/\gr e x=true)\/t.bL=true
structure Inv (e:Int) (c:aT):Prop where
 total:gW e c c.ar.length=ja e c
 token:∀t,hR c e=some t->t.going=true->Good e c t
 AJ:(nO c e||nj c e)=true->quiet e c
theorem z6{α:Type}(f:α->Int){y:α}(x:α):∀{xs:List α} {i k:Nat},xs[i]?=some y->(((xs.set i x).take k).map f).sum=((xs.take k).map f).sum+(if i<k then f x-f y else 0)
 | [],_,_,h=>by simp at h
 | a::xs,0,0,h=>by simp
 | a::xs,0,k+1,h=>by
  grind
 | a::xs,i+1,0,h=>by simp
 | a::xs,i+1,k+1,h=>by
  have eg:=z6 f x (xs:=xs) (i:=i) (k:=k) (by simpa using h);grind
variable{i j:Nat}
theorem xP{α:Type}{xs:List α}{y z:α}(h:(xs.set i y)[j]?=some z):(j=i/\z=y)\/(j≠i/\xs[j]?=some z):=by
 grind
theorem vB{α:Type}{xs:List α}{x y:α}(h:xs[i]?=some x):(xs.set i y)[i]?=some y:=by
 grind
theorem Y0{α:Type}{xs:List α}{y z:α}(h:xs[j]?=some z)(bk:j≠i):(xs.set i y)[j]?=some z:=by
 grind
theorem DC{α:Type}{xs:List α}{x:α}(h:xs[i]?=some x):xs.set i x=xs:=by
 grind[a1,gJ,List.set_getElem_self]
variable{e:Int}{c:aT}{x:aK}
theorem Inv.worker{i:Int}{d:aT}{y:aK}(h:Inv e c)(af:cc c i=some x)(hw:d.ar=c.ar.set i.toNat y)(bG:hR d e=hR c e)
  (adE:(nO d e||nj d e)=true->(nO c e||nj c e)=true)
  (ak:(fG e y=fG e x/\(gr e x=true->gr e y=true)/\ja e d=ja e c/\(ks x e=true->ks y e=true/\ln e y=ln e x))\/
   (ks x e=false/\fG e y=fG e x+1/\(gr e x=true->gr e y=true)/\ja e d=ja e c+1)\/
   (ja e c=ja e d+1/\fG e y=fG e x-1/\gr e y=true)):Inv e d:=by
 obtain⟨i0,i1,i2⟩:=eO af;have hlen:d.ar.length=c.ar.length:=by grind
 have zg:∀k,gW e d k=gW e c k+(if i.toNat<k then fG e y-fG e x else 0):=fun k=>by
  grind[gW,z6,fG]
 have sl:x∈c.ar:=c9 i2;refine⟨?_,fun t iX ax=>?_,fun iX=>?_⟩
 ·rw[zg,hlen,bn i1,h.total];grind
 ·have ht:=h.token t (bG▸iX) ax;unfold Good at ht ⊢;rw[zg];have aCM:(gr e x=true->gr e y=true)->(∃(j:Nat) (z:aK),(j:Int)<=t.place/\c.ar[j]?=some z/\gr e z=true)->∃(j:Nat) (z:aK),(j:Int)<=t.place/\d.ar[j]?=some z/\gr e z=true:=by
   rintro aw ⟨j,z,g1,g2,g3⟩;by_cases bk:j=i.toNat
   ·grind[vB]
   exact⟨j,z,g1,by grind,g3⟩
  rcases ak with⟨h1,U,aA,aJ⟩ | ⟨h1,U,aA,aJ⟩ | ⟨h1,U,aA⟩
  ·rcases ht with⟨fi,EU⟩ | g | g | g
   ·refine .inl ⟨fun j z bk bd=>?_,?_⟩
    ·grind[xP]
    grind
   ·grind
   ·grind
   grind
  ·rcases ht with⟨fi,EU⟩ | g | g | g
   ·have hle:¬t.place<i.toNat:=fun bS=>by
     grind
    omega
   ·grind
   ·grind
   grind
  by_cases hle:(i.toNat:Int)<=t.place
  ·grind[vB]
  rw[bw (by omega)];rcases ht with⟨_,EU⟩ | g | ⟨j,z,g1,g2,g3⟩ | g
  ·grind
  ·grind
  ·exact .inr (.inr (.inl ⟨j,z,g1,by grind,g3⟩))
  grind
 obtain⟨q1,jb⟩:=h.AJ (adE iX);have hp:=q1 x sl;rcases ak with⟨_,_,aA,aJ⟩ | ⟨h1,_⟩ | ⟨h1,_⟩
 ·refine⟨fun z bd=>?_,by omega⟩;grind
 ·grind
 omega
theorem pC:ks x e=true<->(∀r∈x.bR,e<r.bi.a8)/\(∀r∈x.queue,r.bi.a8≠e)/\∀r∈x.b8,r.bi.a8≠e:=by
 simp only[ks,xF,Xd,l3,cw,hb,ft,ck,ka];simp_all
theorem avu(g:bV)(cs:List Cell)(r:az):∀q∈(dq g cs r).2.1,q.bi.a8=r.bi.a8:=by
 grind[dq,dU,gC,fq,e9]
theorem xQ{α:Type}{xs:List α}{a d:α}(h:i≠j):(xs.set i a).getD j d=xs.getD j d:=by
 grind
theorem Hv{α:Type}{xs:List α}{a d:α}(h:i<xs.length):(xs.set i a).getD i d=a:=by
 grind
theorem OE{i e:Int}{l m:bm}(h:ez c i=some l):ja e (dc c i m)+py e l=ja e c+py e m:=by
 unfold ja;exact Gp m (iA h).2.2
theorem avv(e cap:Int)(q:List az)(r:az)(a b s g:Int)(l:bm)(al:l.queue=q):py e ⟨cap,q++[r],a,b,s,g⟩=py e l+(if r.bi.a8=e then 1 else 0):=by
 simp only[py,l3,List.filter_append,hs,al,List.filter_cons,List.filter_nil,ka];split<;>rfl
theorem auG(e:Int)(r:az)(q:List az)(l:bm)(al:l.queue=r::q)(cap a b s g:Int):py e l=py e ⟨cap,q,a,b,s,g⟩+(if r.bi.a8=e then 1 else 0):=by
 simp only[py,l3,al,List.filter_cons,ka];grind
theorem rR{c d:aT}{i:Int}{y:aK}(af:cc c i=some x)(aE:d.ar=c.ar.set i.toNat y)(h:ev y e=true->ev x e=true\/nj c e=true)(aZ:nj d e=true->nj c e=true):
  (nO d e||nj d e)=true->(nO c e||nj c e)=true:=by
 simp only[pV];rintro (hw | hw)
 ·unfold nO at hw ⊢;rw[aE,oK]at hw;obtain⟨z,bd,lW⟩:=hw;rcases iq bd with bd | rfl
  ·grind
  rcases h lW with h1 | h1
  ·exact .inl (oK.2 ⟨x,c9 (eO af).2.2,h1⟩)
  grind
 grind
theorem z7{a b:Int}(ai:0<=a)(aw:0<=b)(h:a≠b):a.toNat≠b.toNat:=by omega
variable{f:Int}
theorem Y1{d:Int}(he:0<=e/\e<=3)(bF:0<=f/\f<=3){xs:List Int}(al:xs.length=4):(lY xs f d).getD e.toNat 0=xs.getD e.toNat 0+(if f=e then d else 0):=by
 unfold lY;grind
theorem Hw{g:bV}{w:aK}(h:e6 g w=true):w.bB.length=4/\w.bL.length=4/\w.bj.length=4:=by
 obtain⟨_,_,_,_,a',bu,b1,_⟩:=ik.1 h;grind
theorem OF{g:bV}{xs:List az}(h:gw g xs=true){r:az}(aD:r∈xs):0<=r.bi.a8/\r.bi.a8<=3:=by
 simp only[gw,hb,ft]at h;exact rO (g:=g) (by grind)
theorem vC{b:Bool}:ev (told x f b) e=(ev x e||f==e):=by
 simp[ev,told]
theorem Hy{n:bT}:ev (ee x n) e=(ev x e||n.a8==e):=by
 unfold ee;split
 ·grind
 exact vC
theorem auH{n:bT}:ks (ee x n) e=ks x e:=by
 unfold ee;split<;>rfl
theorem Hz{x:aK}{n:bT}{e:Int}:fG e (ee x n)=fG e x/\gr e (ee x n)=gr e x/\ln e (ee x n)=ln e x:=by
 unfold ee;split<;>exact⟨rfl,rfl,rfl⟩
theorem HA{k:Nat}(h:c.ar[k]?=some x):gW e c (k+1)=gW e c k+fG e x:=by
 simp[gW,qH,h]
variable{t:bP}
theorem vD(he:0<=e)(bF:0<=f)(h:f≠e):(if 0<=e then (c.tokens.set f.toNat t)[e.toNat]? else none)=hR c e:=by
 simp_all[hR,bw,z7]
theorem Y2{n:Nat}{b:Bool}(h:f≠e):((c.news++gh n f b).any fun x=>x.a8==e)=nj c e:=by
 rw[List.any_append];have:((gh n f b).any fun x=>x.a8==e)=false:=by
  grind[ft,gh]
 rw[this,Bool.or_false];rfl
theorem Inv.aBx(h:Inv e c)(he:0<=e)(bF:0<=f)(cX:f≠e)(af:cc c t.place=some x):Inv e (dE c f t x).1:=by
 have DR:gr e (ew x f)=gr e x:=by
  grind[gr,ew,xQ,z7]
 rcases pB c f t x with⟨_,U⟩ | ⟨_,_,h1⟩
 ·grind
 rcases h1 with⟨_,U⟩ | ⟨_,_,U⟩ | ⟨_,bO,_,U⟩ | ⟨_,_,_,U⟩
 ·rw[U];exact h.worker af rfl (vD he bF cX) (rR af rfl (fun k=>.inl k) id) (.inl ⟨rfl,fun k=>DR.trans k,rfl,fun k=>⟨k,rfl⟩⟩)
 ·rw[U];exact h.worker af rfl (vD he bF cX) (rR af rfl (fun k=>.inl k) id) (.inl ⟨rfl,fun k=>DR.trans k,rfl,fun k=>⟨k,rfl⟩⟩)
 ·rw[U];have bd:t.place=0:=by have:=(eO af).1;omega
  rw[bd]at af;refine h.worker af rfl (vD he bF cX) (rR af rfl (fun k=>?_) (fun k=>(Y2 cX).symm.trans k)) (.inl ⟨rfl,id,rfl,fun k=>⟨k,rfl⟩⟩);simp_all[vC,false,Bool.or_false]
 rw[U];exact h.worker (y:=x) af (DC (eO af).2.2).symm (vD he bF cX) (rR af (DC (eO af).2.2).symm (fun k=>.inl k) id) (.inl ⟨rfl,id,rfl,fun k=>⟨k,rfl⟩⟩)
theorem auI{n:Int}(h:0<=n):(n+1).toNat=n.toNat+1:=by omega
theorem auJ{n:Int}:(n-1+1).toNat=n.toNat:=by grind
theorem OG{u:bP}(h:hR c e=some t):(if 0<=e then (c.tokens.set e.toNat u)[e.toNat]? else none)=some u:=by
 obtain⟨bO,_,U⟩:=xG h;grind
theorem Inv.over(h:Inv e c)(bG:hR c e=some t)(ax:t.going=true)(bO:¬0<t.place)(af:cc c t.place=some x)(hp:ks x e=true)
  (aw:t.bL=false/\x.bL.getD e.toNat false=false/\t.sum+x.bB.getD e.toNat 0=0):quiet e c/\((t.cf||ln e x)=false->∀z∈c.ar,ln e z=false):=by
 have bd:t.place=0:=by have:=(eO af).1;omega
 obtain⟨_,_,gz⟩:=eO af;rw[bd]at gz;have ao:gW e c 1=fG e x:=by rw[HA (k:=0) gz];simp[gW]
 have ht:=h.token t bG ax;unfold Good at ht;rw[bd]at ht;change ((_/\gW e c 1+t.sum=_)\/0<gW e c 1+t.sum\/_) at ht;rw[ao]at ht;have E2:t.sum+fG e x=0:=aw.2.2;rcases ht with⟨fi,EU⟩ | g | ⟨i,z,g1,g2,g3⟩ | g
 ·have key:∀z∈c.ar,ks z e=true/\(ln e z=true->(t.cf||ln e x)=true):=by
   intro z bd;obtain⟨i,hi⟩:=List.getElem?_of_mem bd;grind
  refine⟨⟨fun z bd=>(key z bd).1,by omega⟩,fun fZ z bd=>?_⟩;grind
 ·omega
 ·simp_all[some,gr,false]
 grind
theorem Inv.aBy(h:Inv e c)(bW:cB c=true)(bG:hR c e=some t)(af:cc c t.place=some x):Inv e (dE c e t x).1:=by
 obtain⟨i0,i1,i2⟩:=eO af;obtain⟨_,_,Fg,_⟩:=sE.1 (zS bW bG);rcases pB c e t x with⟨_,U⟩ | ⟨_,hp,h1⟩
 ·grind
 have whole:∀u:bP,(u.going=true->Good e (setW (cJ c e u) t.place (ew x e)) u)->Inv e (setW (cJ c e u) t.place (ew x e)):=by
  intro u hu;have zg:∀k,gW e (setW (cJ c e u) t.place (ew x e)) k=gW e c k:=fun k=>by
   have:=z6 (fG e) (ew x e) (k:=k) i2;rw[show fG e (ew x e)=fG e x from rfl,Int.sub_self,ite_self,Int.add_zero]at this;exact this
  refine⟨?_,fun du iX ax=>?_,fun iX=>?_⟩
  ·rw[zg,show (setW (cJ c e u) t.place (ew x e)).ar.length=c.ar.length from hc];exact h.total
  ·rw[show hR (setW (cJ c e u) t.place (ew x e)) e=some u from OG bG]at iX;grind
  obtain⟨q1,jb⟩:=h.AJ (rR (c:=c) (d:=setW (cJ c e u) t.place (ew x e)) af rfl (fun k=>.inl k) id iX);refine⟨fun z bd=>?_,jb⟩;rcases iq bd with bd | rfl
  ·exact q1 z bd
  exact hp
 have FC:∀(u:bP) k,gW e (setW (cJ c e u) t.place (ew x e)) k=gW e c k:=fun u k=>by
  have:=z6 (fG e) (ew x e) (k:=k) i2;rw[show fG e (ew x e)=fG e x from rfl,Int.sub_self,ite_self,Int.add_zero]at this;exact this
 rcases h1 with⟨ax,U⟩ | ⟨ax,bO,U⟩ | ⟨ax,bO,aw,U⟩ | ⟨ax,bO,aw,U⟩
 ·rw[U];refine whole _ fun _=>.inl ⟨fun j z bk bd=>?_,?_⟩
  ·have:=a1 bd;rw[show (setW (cJ c e _) t.place (ew x e)).ar.length=c.ar.length from hc]at this;grind
  rw[FC];change gW e c ((c.ar.length:Int)-1+1).toNat+0=ja e c;rw[show ((c.ar.length:Int)-1+1).toNat=c.ar.length by omega,Int.add_zero];exact h.total
 ·rw[U];have ht:=h.token t bG ax;refine whole _ fun _=>?_
  unfold Good at ht ⊢;rw[FC];change ((∀(i:Nat) z,t.place-1<i->_->_)/\gW e c (t.place-1+1).toNat+(t.sum+fG e x)=ja e c)\/0<gW e c (t.place-1+1).toNat+(t.sum+fG e x)\/(∃(i:Nat) (z:aK),(i:Int)<=t.place-1/\_)\/(t.bL||gr e x)=true;rw[auI i0,HA i2]at ht;rw[auJ];rcases ht with⟨fi,EU⟩ | g | ⟨i,z,g1,g2,g3⟩ | g
  ·refine .inl ⟨fun j z bk bd=>?_,by omega⟩;change (c.ar.set t.place.toNat (ew x e))[j]?=some z at bd;rcases xP bd with⟨rfl,rfl⟩ | ⟨cX,bd⟩
   ·exact⟨hp,fun k=>by change (t.cf||ln e x)=true;rw[show ln e x=true from k,Bool.or_true]⟩
   grind
  ·grind
  ·by_cases hi:i=t.place.toNat
   ·grind
   exact .inr (.inr (.inl ⟨i,z,by omega,Y0 g2 hi,g3⟩))
  grind
 ·rw[U];obtain⟨⟨q1,jb⟩,_⟩:=h.over bG ax bO af hp aw;have bd:t.place=0:=by omega
  rw[bd]at i2 i1;have zg:∀k,((((c.ar.set 0 (told x e (t.cf||x.bj.getD e.toNat false))).take k).map (fG e)).sum)=gW e c k:=fun k=>by
   have:=z6 (fG e) (told x e (t.cf||x.bj.getD e.toNat false)) (k:=k) i2;rw[show fG e (told x e (t.cf||x.bj.getD e.toNat false))=fG e x from rfl,Int.sub_self,ite_self,Int.add_zero]at this;exact this
  refine⟨?_,fun du iX acv=>?_,fun _=>⟨fun z bd=>?_,jb⟩⟩
  ·refine (zg _).trans ?_;rw[show (fV (setW (cJ c e ⟨false,t.place,t.sum,t.bL,t.cf⟩) 0 (told x e (t.cf||x.bj.getD e.toNat false))) (c.news++gh (c.ar.length-1) e (t.cf||x.bj.getD e.toNat false))).ar.length=c.ar.length from hc];exact h.total
  ·change (if 0<=e then (c.tokens.set e.toNat _)[e.toNat]? else none)=some du at iX;grind
  rcases iq bd with bd | rfl
  ·exact q1 z bd
  exact hp
 rw[U];refine⟨h.total,fun du iX acv=>?_,h.AJ⟩;change (if 0<=e then (c.tokens.set e.toNat _)[e.toNat]? else none)=some du at iX;grind
theorem Inv.step{d:aT}{p:b'}(h:Inv e c)(he:0<=e/\e<=3)(bW:cB c=true)(st:Step c p d):Inv e d:=by
 cases st with
 | work x r q hk af ao aH=>
  have aW:=j4 bW af;obtain⟨_,_,al⟩:=Hw aW;refine h.worker af rfl rfl (rR af rfl (fun k=>.inl k) id) (.inl ⟨rfl,id,rfl,fun k=>?_⟩);obtain⟨cS,bt,fP⟩:=pC.1 k;rw[aH]at bt;have gn:=bt r (hU ..);refine⟨pC.2 ⟨cS,fun a ai=>bt a (gI _ ai),fun a ai=>?_⟩,?_⟩
  ·grind[avu]
  have aD:=OF (ik.1 aW).1 (r:=r) (by grind);grind[ln,xQ,z7]
 | input x r t hk af ao aH hi=>
  refine h.worker af rfl rfl (rR af rfl (fun k=>.inl k) id) (.inl ⟨rfl,id,rfl,fun k=>⟨?_,rfl⟩⟩);obtain⟨cS,bt,fP⟩:=pC.1 k;rw[hi]at cS;refine pC.2 ⟨fun a ai=>cS a (gI _ ai),fun a ai=>?_,fun a ai=>by cases ai⟩;grind
 | e3 x r t hk af ao a7=>
  refine h.worker af rfl rfl (rR af rfl (fun k=>.inl k) id) (.inl ⟨rfl,id,rfl,fun k=>⟨?_,rfl⟩⟩);obtain⟨cS,bt,fP⟩:=pC.1 k;rw[ao]at fP;refine pC.2 ⟨cS,fun a ai=>?_,fun a ai=>fP a (gI _ ai)⟩;rcases ia.1 ai with ai | ai
  ·exact bt a ai
  grind
 | send x r t l hk af ao a7 al hsend=>
  obtain⟨_,_,_,e1⟩:=CB hsend;have aW:=j4 bW af;obtain⟨vb,_,_⟩:=Hw aW;have aD:=OF (ik.1 aW).2.1 (r:=r) (by grind);have bF:=OE (e:=e) (m:=(ef l r).1) al;have rk:fG e (mv (hP x t) r.bi.a8)=fG e x+(if r.bi.a8=e then 1 else 0):=Y1 he aD vb;rw[e1,avv e _ _ r _ _ _ _ l rfl]at bF;refine h.worker af (d:=setW (dc c _ (ef l r).1) p.a _) rfl rfl (rR af rfl (fun k=>.inl k) id) ?_;have u7:ja e (setW (dc c (dZ c.ay p.a (eU r.key c.ay.ar)) (ef l r).1) p.a (mv (hP x t) r.bi.a8))=ja e c+(if r.bi.a8=e then 1 else 0):=by
   rw[e1];change ja e (dc c _ _)=_;omega
  by_cases BK:r.bi.a8=e
  ·rw[bn BK]at rk u7;refine .inr (.inl ⟨?_,rk,id,u7⟩);rw[uF];intro k;obtain⟨_,_,fP⟩:=pC.1 k;grind
  rw[bw BK]at rk u7;refine .inl ⟨by omega,id,by omega,fun k=>⟨?_,rfl⟩⟩;obtain⟨cS,bt,fP⟩:=pC.1 k;rw[ao]at fP;exact pC.2 ⟨cS,bt,fun a ai=>fP a (gI _ ai)⟩
 | take l x hk eb al af bG=>
  obtain⟨_,r,q,aH,e2,e1⟩:=xK bG;have aW:=j4 bW af;obtain⟨vb,tA,_⟩:=Hw aW;have aD:=rO (G2 (rN bW al) bG).2;rw[e2]at aD;have bF:=OE (e:=e) (m:=(dG l).1) al;have rk:fG e (h8 x r)=fG e x+(if r.bi.a8=e then -1 else 0):=Y1 he aD vb;rw[e1,auG e r q l aH l.cap l.eL (l.back+1) l.eo (l.cW+1)]at bF;rw[e2];refine h.worker af (d:=setW (dc c _ (dG l).1) p.b _) rfl rfl (rR af rfl (fun k=>.inl k) id) ?_;have u7:ja e (setW (dc c (dZ c.ay p.a p.b) (dG l).1) p.b (h8 x r))+(if r.bi.a8=e then 1 else 0)=ja e c:=by
   rw[e1];change ja e (dc c _ _)+_=_;omega
  by_cases BK:r.bi.a8=e
  ·rw[bn BK]at rk u7;grind[gr,h8,Hv]
  rw[bw BK]at rk u7;refine .inl ⟨by omega,fun k=>?_,by omega,fun k=>⟨?_,rfl⟩⟩
  ·grind[gr,h8,xQ,z7]
  obtain⟨cS,bt,fP⟩:=pC.1 k;refine pC.2 ⟨cS,fun a ai=>?_,fP⟩;rcases ia.1 ai with ai | ai
  ·exact bt a ai
  grind
 | p0 l hk eb al ak=>
  rcases xL l with⟨k,_⟩ | ⟨_,_,_,e1⟩
  ·grind
  have bF:=OE (e:=e) (m:=(fF l).1) al;have U:py e (fF l).1=py e l:=by rw[e1];rfl
  have aA:ja e (dc c (dZ c.ay p.a p.b) (fF l).1)=ja e c:=by omega
  refine⟨by rw[aA];exact h.total,fun t iX ax=>?_,fun iX=>⟨(h.AJ iX).1,by rw[aA];exact (h.AJ iX).2⟩⟩;have ht:=h.token t iX ax;unfold Good at ht ⊢;rw[aA];exact ht
 | token t x cE hk iI bO aE bG af q6=>
  simp only[av,ck]at iI;by_cases BI:p.a=e
  ·subst BI;exact h.aBy bW bG af
  exact h.aBx he.1 iI.1 BI af
 | p' k n x hk aZ aE af=>
  obtain⟨cS,bt,fP⟩:=Hz (x:=x) (n:=n) (e:=e);refine h.worker af rfl rfl (rR af rfl (fun q=>?_) (fun q=>?_)) (.inl ⟨cS,fun q=>bt.trans q,rfl,fun q=>⟨auH.trans q,fP⟩⟩)
  ·rw[Hy,pV]at q;rcases q with q | q
   ·exact .inl q
   exact .inr (oK.2 ⟨n,c9 aZ,q⟩)
  unfold nj at q ⊢;rw[oK]at q ⊢;obtain⟨m,hm,q⟩:=q;refine⟨m,?_,q⟩;change m∈cutAt c.news k at hm;grind[cutAt,td,wq]
end Go.Proofs.YtdchjefneblpgaaGreat
namespace Go.Proofs.YtdchjefneblpgaaGreat
open Go.Sx Go.RowKit Go.Proofs.Tryz
def sI(r:az):Bool:=!eJ r||r.op != 0||r.bi.dg != 0
def zx(g:bV)(xs:List az)(w e:Int):List az:=xs.filter fun r=>r.bi.a8==e&&eU r.key g.ar==w
def po(g:bV)(xs:List az)(w:Int)(n:Nat):List az:=(List.range n).flatMap fun e=>zx g xs w (e:Nat)
def own(g:bV)(xs:List az)(w:Int):List az:=po g xs w 4
def lb(xs:List az):aK:=⟨[],[],xs,[],List.replicate 4 0,List.replicate 4 false,List.replicate 4 false,[]⟩
def kP(cap:Int):bm:=⟨fT cap 1 4,[],fT cap 1 4,0,0,0⟩
def DP:bP:=⟨false,0,0,false,false⟩
def pD(g:bV)(xs:List az)(n:Nat):List aK:=(List.range n).map fun w=>lb (own g xs (w:Nat))
def eP(g:bV)(xs:List az):aT:=⟨g,pD g xs g.ar.toNat,List.replicate (g.ar.toNat*g.ar.toNat) (kP g.cap),List.replicate 4 DP,[]⟩
def Y3:aT:=⟨⟨[],0,0⟩,[],[],[],[]⟩
def mo(g:bV)(xs:List az):Bool:=eh g&&decide (xs.length<=20)&&!xs.any sI
def z8(g:bV)(xs:List az):aT×Bool:=if mo g xs then (eP g xs,true) else (Y3,false)
theorem Y4(g:bV)(xs:List az)(w:Int)(n:Nat):po g xs w (n+1)=po g xs w n++zx g xs w (n:Nat):=by
 simp[po,List.range_succ]
theorem Y5(g:bV)(xs:List az)(w:Int)(n:Nat):(po g xs w n).length<=n*xs.length:=by
 have h:=Am (fun e:Nat=>zx g xs w (e:Nat)) xs.length (fun _=>pT _ _) (List.range n);rwa[ww]at h
variable{xs:List az}
theorem Y6{g:bV}(al:xs.length<=20)(w:Int):(own g xs w).length<=80:=by
 have:=Y5 g xs w 4;unfold own;omega
theorem auK{g:bV}(al:xs.length<=20)(w:Int){n:Nat}(aZ:n<4):(po g xs w n).length<=60:=by
 have:=Y5 g xs w n;have:n*xs.length<=3*20:=Nat.mul_le_mul (by omega) al;omega
theorem auL(g:bV)(xs:List az)(n:Nat):pD g xs (n+1)=pD g xs n++[lb (own g xs (n:Nat))]:=by
 simp[pD,List.range_succ]
theorem z'(g:bV)(xs:List az)(n:Nat):(pD g xs n).length=n:=by simp[pD]
theorem auM{α:Type}{f:α->List D}{x:α}{m:Nat}:(List.replicate m x).map f++[f x]=(List.replicate (m+1) x).map f:=by
 rw[List.replicate_succ',gi];rfl
theorem Y7(cap:Int):aq 126 [.one (I cap)] [.agg (kP cap).e]:=aqJ ⟨He cap 1 4,aa⟩
theorem Y8(xs:List az)(al:xs.length<=1000):aq 124 [.one (.J 5 (xs.map az.e))] [.agg (lb xs).e]:=
 aqK ⟨nl (by simp;omega),k8 (by simp;omega),dz _ az.flat _,by omega,by omega,by decide,by omega,by omega,by omega,by decide,by omega,by omega,by omega,by decide,by omega,aa⟩
theorem auN(g:bV)(xs:List az)(w:Int)(aZ:1<=g.ar/\g.ar<=4)(al:xs.length<=20):aq 125 [.agg g.e,.one (.J 5 (xs.map az.e)),.one (I w)] [.one (.J 5 ((own g xs w).map az.e))]:=by
 have hz:=fun (e:Nat) (he:e<4) (acc:List az) (ai:acc.length<=100)=>dY (P:=prog) (c:=(ap f125 1)) (cn 2) xs.length (fun i:Nat=>uq (g.nodes.map Node.e) g.ar g.cap (xs.map az.e) w e i ((acc++(xs.take i).filter fun r=>r.bi.a8==(e:Int)&&eU r.key g.ar==w).map az.e)) (fun i hi=>by
  obtain⟨r,aD⟩:=c4 hi;have bF:((xs.take i).filter fun r=>r.bi.a8==(e:Int)&&eU r.key g.ar==w).length<=20:=by
   have:=pT (fun r:az=>r.bi.a8==(e:Int)&&eU r.key g.ar==w) (xs.take i);have:=G5 i xs;omega
  rw[Ag _ aD];generalize (xs.take i).filter (fun r=>r.bi.a8==(e:Int)&&eU r.key g.ar==w)=eS at*;have oq:=WQ r.key g.ar (by omega);cases h1:(r.bi.a8==(e:Int)) with
  | false=>
   rw[Bool.false_and,bw (by decide),io];exact aqE ⟨b5 hi,bA,bH hi,bC az.e aD,h1,db hi (by omega),aa⟩
  | true=>
   cases U:(eU r.key g.ar==w) with
   | false=>
    rw[Bool.and_false,bw (by decide),io];exact aqD ⟨b5 hi,bA,bH hi,bC az.e aD,h1,bA,bH hi,bC az.e aD,oq,U,db hi (by omega),aa⟩
   | true=>
    rw[uI,bn rfl,<-nT,G4];exact aqC ⟨b5 hi,bA,bH hi,bC az.e aD,h1,bA,bH hi,bC az.e aD,oq,U,bA,bH hi,bC az.e aD,by simp;omega,by simp;omega,fE (az.flat r),db hi (by omega),aa⟩) (aqF ⟨dw,aa⟩)
 have eF:=dY (P:=prog) (c:=(ap f125 0)) (cn 0) 4 (fun n:Nat=>CD (g.nodes.map Node.e) g.ar g.cap (xs.map az.e) w n ((po g xs w n).map az.e)) (fun n aZ=>by
  have:=hz n aZ (po g xs w n) (by have:=auK (g:=g) al w aZ;omega);rw[kS,List.take_zero,List.filter_nil,io]at this;rw[Y4];exact aqG ⟨dh (by omega),this,⟨by omega,by omega⟩,aa⟩) (aqH ⟨ea (by omega),aa⟩)
 exact aqI ⟨eF,aa⟩
theorem OH{g:bV}(h:mo g xs=false):z8 g xs=(Y3,false):=by unfold z8;rw[h];rfl
theorem OI{g:bV}(h:mo g xs=true):z8 g xs=(eP g xs,true):=by unfold z8;rw[h];rfl
theorem auO(g:bV)(xs:List az)(al:xs.length<=20):
  (xs.any sI=false/\c8 prog (ap f14 0) (rP (xs.map az.e) 0 0 0 (g.nodes.map Node.e) g.ar g.cap) (.exit 0) (OL (xs.map az.e) 0 0 (g.nodes.map Node.e) g.ar g.cap))\/
  (xs.any sI=true/\c8 prog (ap f14 0) (rP (xs.map az.e) 0 0 0 (g.nodes.map Node.e) g.ar g.cap) .ret (zU false 0 0)):=by
 have l:=gv (P:=prog) (c:=(ap f14 0)) xs sI (fun i=>rP (xs.map az.e) i 0 0 (g.nodes.map Node.e) g.ar g.cap) (e1:=.ret) (e2:=.exit 0) (X:=fun _ _=>zU false 0 0) e5 (cn 0)
  (fun i a ai h=>by
   simp only[sI,gl]at h;have hi:=a1 ai;exact arm ⟨b5 hi,bA,bH hi,bC az.e ai,uj a,h.1.1,bA,bH hi,bC az.e ai,h.1.2,bA,bH hi,bC az.e ai,h.2,db hi (by omega),aa⟩)
  (fun i a ai h=>by
   have hi:=a1 ai;have gn:=uj a;unfold sI at h;cases h1:(!eJ a) with
   | true=>exact arj ⟨b5 hi,bA,bH hi,bC az.e ai,gn,h1,aa⟩
   | false=>
    cases U:(a.op != 0) with
    | true=>exact ark ⟨b5 hi,bA,bH hi,bC az.e ai,gn,h1,bA,bH hi,bC az.e ai,U,aa⟩
    | false=>
     rw[h1,U,ke,ke]at h;exact arl ⟨b5 hi,bA,bH hi,bC az.e ai,gn,h1,bA,bH hi,bC az.e ai,U,bA,bH hi,bC az.e ai,h,aa⟩)
  (arn ⟨dw,aa⟩)
 rcases l with⟨_,_,h1,U⟩ | ⟨i,a,_,_,_,_,h1,U⟩
 ·exact .inl ⟨h1,U⟩
 exact .inr ⟨h1,U⟩
theorem auP(g:bV)(xs:List az)(aZ:1<=g.ar/\g.ar<=4)(al:xs.length<=20):
  c8 prog (ap f14 1) (zV (xs.map az.e) 0 (g.nodes.map Node.e) g.ar g.cap [] [] ((List.replicate 4 DP).map bP.e) 0 0 (g.nodes.map Node.e) g.ar g.cap) (.exit 2)
   (OM (g.nodes.map Node.e) g.ar g.cap ((pD g xs g.ar.toNat).map aK.e) ((List.replicate (g.ar.toNat*g.ar.toNat) (kP g.cap)).map bm.e) ((List.replicate 4 DP).map bP.e) 0 0):=by
 obtain⟨n,lq⟩:∃n:Nat,g.ar=n:=⟨g.ar.toNat,by omega⟩
 have Fa:n<=4:=by omega
 have mm:=fun (w:Nat) (m:Nat) (W T:List (List D)) (hm:m<=16)=>dY (P:=prog) (c:=(ap f14 2)) (cn 4) n (fun k:Nat=>CC (xs.map az.e) w k (g.nodes.map Node.e) g.ar g.cap W ((List.replicate (m+k) (kP g.cap)).map bm.e) T 0 0 (g.nodes.map Node.e) g.ar g.cap) (fun k hk=>by
  rw[<-IT,<-auM];exact arp ⟨dh (by omega),Y7 g.cap,by simp;omega,by simp;omega,⟨by omega,by omega⟩,aa⟩) (arq ⟨ea (by omega),aa⟩)
 have hz:=dY (P:=prog) (c:=(ap f14 1)) (cn 2) n (fun w:Nat=>zV (xs.map az.e) w (g.nodes.map Node.e) g.ar g.cap ((pD g xs w).map aK.e) ((List.replicate (w*n) (kP g.cap)).map bm.e) ((List.replicate 4 DP).map bP.e) 0 0 (g.nodes.map Node.e) g.ar g.cap) (fun w hw=>by
  have vg:=z' g xs w;have hm:w*n<=3*4:=Nat.mul_le_mul (by omega) Fa;rw[auL,G4,show (w+1)*n=w*n+n by rw[hT,Nat.one_mul]];exact ars ⟨dh (by omega),auN g xs w aZ al,Y8 _ (by have:=Y6 (g:=g) al (w:Nat);omega),by simp[vg];omega,by simp[vg];omega,mm w (w*n) _ _ (by omega),⟨by omega,by omega⟩,aa⟩) (art ⟨ea (by omega),aa⟩)
 rw[show ((0:Nat)*n)=0 by omega]at hz;rw[lq,kU];rw[lq]at hz;exact hz
theorem Y9(g:bV)(xs:List az)(ax:g.sz<=8388608):aq 14 [.agg g.e,.one (.J 5 (xs.map az.e))] [.agg (z8 g xs).1.e,.one (B (z8 g xs).2)]:=by
 have yV:=Az g ax;cases h1:eh g with
 | false=>
  rw[h1]at yV;rw[OH (by unfold mo;rw[h1];rfl)];exact arh ⟨yV,rfl,aa⟩
 | true=>
 rw[h1]at yV;by_cases al:xs.length<=20
 case neg=>
  rw[OH (by unfold mo;rw[oL al,Bool.and_false];rfl)];exact ari ⟨yV,rfl,dh (by simp;omega),aa⟩
 rcases auO g xs al with⟨U,l⟩ | ⟨U,l⟩
 ·rw[OI (by unfold mo;rw[h1,U,lg al];rfl)];exact aqB ⟨yV,rfl,ea (by simp;omega),l,V3 g ax,by omega,by omega,by decide,by omega,auP g xs (iR h1) al,aa⟩
 rw[OH (by unfold mo;rw[U];simp)];exact aro ⟨yV,rfl,ea (by simp;omega),l,aa⟩
end Go.Proofs.YtdchjefneblpgaaGreat
namespace Go.Proofs.YtdchjefneblpgaaGreat
open Go.Sx Go.RowKit Go.Proofs.Tryz
theorem HB{α:Type}{f:α->Nat}{k:Nat}:∀{xs:List α},(∀x∈xs,f x<=k)->(xs.map f).sum<=xs.length*k
 | [],_=>by simp
 | a::xs,h=>by
  have h1:=h a (by simp);have U:=HB (f:=f) (k:=k) (xs:=xs) (fun x af=>h x (by simp[af]));simp only[lN,wx,gQ,hT,Nat.one_mul];omega
theorem Aa{g:bV}{xs:List az}:mo g xs=true<->eh g=true/\xs.length<=20/\xs.any sI=false:=by
 simp only[mo,cw,ck,hb,and_assoc]
theorem Y'{g:bV}{xs:List az}(h:mo g xs=true):(eP g xs).sz<=g.sz+1000:=by
 obtain⟨h1,U,_⟩:=Aa.1 h;have aZ:=iR h1;obtain⟨n,lq⟩:∃n:Nat,g.ar=n:=⟨g.ar.toNat,by omega⟩
 have a:=HB (f:=aK.sz) (k:=92) (xs:=pD g xs n) (fun x af=>by
  simp only[pD,lh]at af;obtain⟨w,_,rfl⟩:=af;have:=Y6 (g:=g) U (w:Nat);simp only[lb,aK.sz,et,List.length_replicate];omega)
 have b:=HB (f:=bm.sz) (k:=0) (xs:=List.replicate (n*n) (kP g.cap)) (fun x af=>by
  rw[List.eq_of_mem_replicate af];simp[kP,bm.sz])
 have hm:n*n<=4*4:=Nat.mul_le_mul (by omega) (by omega);simp only[eP,aT.sz,fs,lq,kU,List.length_replicate,et,z']at a b ⊢;omega
theorem Za(g:bV)(xs:List az):fa (eP g xs):=by
 intro l al;have:=List.eq_of_mem_replicate al;subst this;simp[kP]
end Go.Proofs.YtdchjefneblpgaaGreat
namespace Go.Proofs.YtdchjefneblpgaaGreat
open Go.Sx Go.RowKit Go.Proofs.Tryz
structure jK (c:aT):Prop where
 w:∀(i:Nat) x,c.ar[i]?=some x->(∀r∈x.queue,eU r.key c.ay.ar=i)/\∀r∈x.bR,eU r.key c.ay.ar=i
 l:∀(i:Nat) l,c.bJ[i]?=some l->∀r∈l.queue,eU r.key c.ay.ar=(i:Int).tmod c.ay.ar
variable{c:aT}
theorem jK.ok(h:jK c)(aZ:1<=c.ay.ar):WR c=true:=by
 unfold WR;rw[zR (p:=I3 c.ay.ar) fun i x af=>?_,zR (p:=I2 c.ay.ar) fun i l al=>?_]
 ·rfl
 ·simp only[I2,gl,mG,ft,Cu,bne_iff_ne,l6,Decidable.not_not];exact⟨by omega,h.l i l al⟩
 simp only[I3,gl,ft,Cu,bne_iff_ne,l6,Decidable.not_not];exact h.w i x af
theorem jK.setW{c:aT}{i:Int}{y:aK}(h:jK c)(bD:(∀r∈y.queue,eU r.key c.ay.ar=i.toNat)/\∀r∈y.bR,eU r.key c.ay.ar=i.toNat):jK (setW c i y):=
 ⟨fun j x af=>by
  rcases xP af with⟨rfl,rfl⟩ | ⟨_,af⟩
  ·exact bD
  exact h.w j x af,h.l⟩
theorem jK.dc{c:aT}{i:Int}{m:bm}(h:jK c)(hm:∀r∈m.queue,eU r.key c.ay.ar=(i.toNat:Int).tmod c.ay.ar):jK (dc c i m):=
 ⟨h.w,fun j l al=>by
  rcases xP al with⟨rfl,rfl⟩ | ⟨_,al⟩
  ·exact hm
  exact h.l j l al⟩
variable{i:Int}{x:aK}
theorem jK.at(h:jK c)(af:cc c i=some x):(∀r∈x.queue,eU r.key c.ay.ar=i.toNat)/\∀r∈x.bR,eU r.key c.ay.ar=i.toNat:=h.w _ x (eO af).2.2
theorem jK.link{l:bm}(h:jK c)(al:ez c i=some l):∀r∈l.queue,eU r.key c.ay.ar=(i.toNat:Int).tmod c.ay.ar:=h.l _ l (iA al).2.2
theorem jK.cJ{i:Int}{u:bP}(h:jK c):jK (cJ c i u):=⟨h.w,h.l⟩
variable{g:bV}
theorem HC{a b:Int}(h:0<=dZ g a b):av a 0 (g.ar-1)=true/\av b 0 (g.ar-1)=true:=by
 cases ak:(av a 0 (g.ar-1)&&av b 0 (g.ar-1)) with
 | true=>grind
 | false=>grind[uo]
theorem jK.dE{e:Int}{t:bP}(h:jK c)(af:cc c t.place=some x):jK (dE c e t x).1:=by
 have aH:=h.at af;rcases pB c e t x with⟨_,U⟩ | ⟨_,_,⟨_,U⟩ | ⟨_,_,U⟩ | ⟨_,bO,_,U⟩ | ⟨_,_,_,U⟩⟩
 ·grind
 ·rw[U];exact h.cJ.setW aH
 ·rw[U];exact h.cJ.setW aH
 ·rw[U];have bd:t.place=0:=by have:=(eO af).1;omega
  rw[bd]at aH;have bt:=(h.cJ (i:=e) (u:=⟨false,t.place,t.sum,t.bL,t.cf⟩)).setW (i:=0) (y:=told x e (t.cf||x.bj.getD e.toNat false)) aH;exact⟨bt.w,bt.l⟩
 rw[U];exact⟨h.w,h.l⟩
theorem jK.step{d:aT}{p:b'}(h:jK c)(bW:cB c=true)(st:Step c p d):jK d:=by
 have aZ:=iR (fz.1 bW).1;cases st with
 | work x r q hk af ao aH=>
  have:=h.at af;rw[aH]at this;exact h.setW ⟨fun a ai=>this.1 a (gI _ ai),this.2⟩
 | input x r t hk af ao aH hi=>
  have:=(h.at af).2;rw[hi]at this;exact h.setW ⟨fun a ai=>this a (by grind),fun a ai=>this a (gI _ ai)⟩
 | e3 x r t hk af ao a7=>
  have:=h.at af;have hp:=(eO af).1;refine h.setW ⟨fun a ai=>?_,this.2⟩;rcases ia.1 ai with ai | ai
  ·exact this.1 a ai
  grind
 | send x r t l hk af ao a7 al hsend=>
  obtain⟨_,_,_,e1⟩:=CB hsend;obtain⟨g1,g2⟩:=HC (iA al).1;obtain⟨_,_,_,_,FA⟩:=xH aZ g1 g2;have hp:=(iA al).1;have hw:=h.at af;refine (h.dc (i:=dZ c.ay p.a (eU r.key c.ay.ar)) (m:=(ef l r).1) fun a ai=>?_).setW (c:=Go.Proofs.YtdchjefneblpgaaGreat.dc c _ _) hw;rw[e1]at ai;rcases ia.1 ai with ai | ai
  ·exact h.link al a ai
  grind
 | take l x hk eb al af bG=>
  obtain⟨_,r,q,aH,e2,e1⟩:=xK bG;obtain⟨g1,g2⟩:=HC (iA al).1;obtain⟨hq,_,_,_,FA⟩:=xH aZ g1 g2;have lp:=h.link al;rw[aH,M9 al,hq,FA]at lp;have aw:=(eO af).1;refine (h.dc (i:=dZ c.ay p.a p.b) (m:=(dG l).1) fun a ai=>?_).setW (c:=Go.Proofs.YtdchjefneblpgaaGreat.dc c _ _) ⟨fun a ai=>?_,(h.at af).2⟩
  ·grind
  rcases ia.1 ai with ai | ai
  ·exact (h.at af).1 a ai
  obtain rfl:a=_:=by simpa using ai
  rw[e2];have:=lp r (hU ..);change eU r.key c.ay.ar=_;omega
 | p0 l hk eb al ak=>
  rcases xL l with⟨k,_⟩ | ⟨_,_,_,e1⟩
  ·grind
  refine h.dc fun a ai=>?_
  rw[e1]at ai;exact h.link al a ai
 | token t x cE hk iI bO aE bG af q6=>exact h.dE af
 | p' k n x hk aZ aE af=>
  have aH:=h.at af;have:=h.setW (i:=p.a) (y:=ee x n) (by
   unfold ee;split<;>exact aH)
  exact⟨this.w,this.l⟩
structure jq (S:Int) (c:aT):Prop where
 bB:∀x∈c.ar,∀k:Nat,-S<=x.bB.getD k 0/\x.bB.getD k 0<=S
 eo:∀l∈c.bJ,l.eo<=S
 wh:∀t∈c.tokens,t.going=true->t.sum+200000*t.place<=600000/\-600000<=t.sum-200000*t.place
variable{S:Int}
theorem Zb{xs:List Int}{f d:Int}(aE:-1<=d/\d<=1)(h:∀k:Nat,-S<=xs.getD k 0/\xs.getD k 0<=S)(k:Nat):-(S+1)<=(lY xs f d).getD k 0/\(lY xs f d).getD k 0<=S+1:=by
 grind[lY,Hv,List.set_eq_of_length_le,xQ]
theorem jq.mono{T:Int}(h:jq S c)(iX:S<=T):jq T c:=
 ⟨fun x af k=>by have:=h.bB x af k;omega,fun l al=>by have:=h.eo l al;omega,h.wh⟩
theorem jq.setW{c:aT}{i:Int}{y:aK}(h:jq S c)(bD:∀k:Nat,-S<=y.bB.getD k 0/\y.bB.getD k 0<=S):jq S (setW c i y):=
 ⟨fun x af=>by
  rcases iq af with af | rfl
  ·exact h.bB x af
  exact bD,h.eo,h.wh⟩
theorem jq.dc{c:aT}{i:Int}{m:bm}(h:jq S c)(hm:m.eo<=S):jq S (dc c i m):=
 ⟨h.bB,fun l al=>by
  rcases iq al with al | rfl
  ·exact h.eo l al
  exact hm,h.wh⟩
theorem jq.cJ{i:Int}{u:bP}(h:jq S c)(hu:u.going=true->u.sum+200000*u.place<=600000/\-600000<=u.sum-200000*u.place):jq S (cJ c i u):=
 ⟨h.bB,h.eo,fun t bG=>by
  rcases iq bG with bG | rfl
  ·exact h.wh t bG
  exact hu⟩
theorem jq.at(h:jq S c)(af:cc c i=some x):∀k:Nat,-S<=x.bB.getD k 0/\x.bB.getD k 0<=S:=h.bB x (c9 (eO af).2.2)
theorem jq.dE{e:Int}{t:bP}(h:jq S c)(hv:S<=200000)(bW:cB c=true)(bG:hR c e=some t)(af:cc c t.place=some x):jq S (dE c e t x).1:=by
 have hw:=Wf bW;have aw:=h.at af;have adA:=h.wh t (c9 (xG bG).2.2);rcases pB c e t x with⟨_,U⟩ | ⟨_,_,⟨_,U⟩ | ⟨ax,bO,U⟩ | ⟨_,bO,_,U⟩ | ⟨_,_,_,U⟩⟩
 ·grind
 ·rw[U];exact (h.cJ fun _=>⟨by grind,by grind⟩).setW aw
 ·rw[U];have aA:=aw e.toNat;have aJ:=adA ax;exact (h.cJ fun _=>⟨by grind,by grind⟩).setW aw
 ·rw[U];have:=(h.cJ (i:=e) (u:=⟨false,t.place,t.sum,t.bL,t.cf⟩) (fun k=>by cases k)).setW (i:=0) (y:=told x e (t.cf||x.bj.getD e.toNat false)) aw;exact⟨this.bB,this.eo,this.wh⟩
 rw[U];exact h.cJ fun k=>by cases k
theorem jq.step{d:aT}{p:b'}(h:jq S c)(hv:S<200000)(bW:cB c=true)(st:Step c p d):jq (S+1) d:=by
 have kB:=h.mono (show S<=S+1 by omega);cases st with
 | work x r q hk af ao aH=>have aw:=kB.at af;exact kB.setW aw
 | input x r t hk af ao aH hi=>have aw:=kB.at af;exact kB.setW aw
 | e3 x r t hk af ao a7=>have aw:=kB.at af;exact kB.setW aw
 | send x r t l hk af ao a7 al hsend=>
  obtain⟨_,_,_,e1⟩:=CB hsend;have:=h.eo l (c9 (iA al).2.2);have aw:=Zb (f:=r.bi.a8) (d:=1) (by omega) (h.at af);exact (kB.dc (by grind)).setW aw
 | take l x hk eb al af bG=>
  obtain⟨_,r,q,aH,e2,e1⟩:=xK bG;have:=h.eo l (c9 (iA al).2.2);have aw:=Zb (f:=(dG l).2.1.bi.a8) (d:=-1) (by omega) (h.at af);exact (kB.dc (by grind)).setW aw
 | p0 l hk eb al ak=>
  rcases xL l with⟨k,_⟩ | ⟨_,_,_,e1⟩
  ·grind
  have:=h.eo l (c9 (iA al).2.2);exact kB.dc (by grind)
 | token t x cE hk iI bO aE bG af q6=>exact (h.dE (by omega) bW bG af).mono (by omega)
 | p' k n x hk aZ aE af=>
  have aw:=kB.at af;have:=kB.setW (i:=p.a) (y:=ee x n) (by
   unfold ee;split<;>exact aw)
  exact⟨this.bB,this.eo,this.wh⟩
theorem auQ(p:b')(bW:cB c=true)(aw:jq S c)(hv:S<1000000):cB (cY c p).1=true:=by
 have aZ:=iR (fz.1 bW).1;have key:∀{i:Int} {x:aK},cc c i=some x->∀(k:Nat) (d:Int),-1<=d/\d<=1->av (x.bB.getD k 0+d) (-1000000) 1000000=true:=fun af k d aE=>by
  have:=aw.at af k;simp only[av,ck];omega
 unfold cY;split
 ·exact WA bW
 split
 ·exact WB bW
 split
 ·unfold iS;rw[bn bW];cases af:cc c p.a with
  | none=>exact bW
  | some x=>
   dsimp only;cases ao:x.b8 with
   | nil=>exact bW
   | cons r t=>
    dsimp only;unfold rM;split
    ·grind[Wy]
    rename_i a7;cases al:ez c (dZ c.ay p.a (eU r.key c.ay.ar)) with
    | none=>exact bW
    | some l=>
     dsimp only;split
     ·rename_i h;exact (Wx bW af ao (Cw _ aZ.1) a7 al h).trans (key af _ 1 (by omega))
     exact bW
 split
 ·unfold jE;split
  ·cases al:ez c (dZ c.ay p.a p.b) with
   | none=>exact bW
   | some l=>
    cases af:cc c p.b with
    | none=>exact bW
    | some x=>
     dsimp only;split
     ·rename_i h;exact (Wz bW al af h).trans (key af _ (-1) (by omega))
     exact bW
  exact bW
 grind[WC,WE,WG]
structure kV (S:Int) (c:aT):Prop where
 ok:cB c=true
 owns:jK c
 uO:jq S c
 inv:∀e:Int,0<=e/\e<=3->Inv e c
theorem kV.mono{T:Int}(h:kV S c)(iX:S<=T):kV T c:=⟨h.ok,h.owns,h.uO.mono iX,h.inv⟩
theorem kV.step(h:kV S c)(hv:S<200000)(p:b'):kV (S+1) (cY c p).1:=by
 have bW:=auQ p h.ok h.uO (by omega);rcases wa c p with⟨_,U⟩ | ⟨_,_,st⟩
 ·rw[U];exact h.mono (by omega)
 exact⟨bW,h.owns.step h.ok st,h.uO.step hv h.ok st,fun e he=>(h.inv e he).step he h.ok st⟩
theorem kV.run{c:aT}:∀(l:List b') {S:Int} {c:aT},kV S c->S+l.length<=200000->kV (S+l.length) (cU c l).1
 | [],S,c,h,_=>by grind[cU]
 | p::l,S,c,h,hv=>by
  simp only[gQ]at hv ⊢;have:=kV.run (c:=c) l (h.step (by omega) p) (by omega);grind[cU,Nat,Int]
theorem HD{xs:List az}{w:Int}{r:az}(h:r∈own g xs w):r∈xs/\eU r.key g.ar=w:=by
 simp only[own,po,l5,zx,List.mem_filter,cw,ka]at h;grind
theorem HE{xs:List az}{n i:Nat}(h:(pD g xs n)[i]?=some x):x=lb (own g xs (i:Nat))/\i<n:=by
 grind[a1,z',pD,gJ]
