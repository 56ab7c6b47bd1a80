import Derived.Test.YtdchjefneblpgaaGreatP87
set_option linter.unusedVariables false
set_option linter.unusedSimpArgs false
namespace Go.Proofs.YtdchjefneblpgaaGreat
open Go.Sx Go.RowKit Go.Proofs.Tryz
def tz(e:Int)(c:aV)(k:Nat):Bool:=(c.ao.take k).all fun x=>!gr e x
def oe(e:Int)(c:aV)(k:Nat):Bool:=(c.ao.drop k).all fun x=>!gr e x
def q'(e:Int)(c:aV)(t:bO):Bool:=!t.bV&&tz e c (t.place.toNat+1)&&decide (hc e c (t.place.toNat+1)+t.sum=0)
def qQ(e:Int)(c:aV)(t:bO):Nat:=
 if t.going=true then (if q' e c t=true then t.place.toNat+1 else if oe e c (t.place.toNat+1)=true then t.place.toNat+1+(c.ao.length+1) else t.place.toNat+1+(2*c.ao.length+2))
 else if oe e c 1=true then c.ao.length+1 else 2*c.ao.length+2
def hs(e:Int)(c:aV):Bool:=match b0 c 0 with | some x=>eC x e | none=>true
def jw(e:Int)(c:aV):Nat:=if hs e c=true then 0 else match h4 c e with | some t=>qQ e c t | none=>0
def tm(c:aV):Nat:=3*(jw 0 c+jw 1 c+jw 2 c+jw 3 c)+c.news.length
theorem YO{α:Type}(f:α->Bool){x:α}:∀{xs:List α} {i k:Nat},((xs.take k).all f=true)->f x=true->((xs.set i x).take k).all f=true
 | [],_,_,_,_=>by simp
 | a::xs,0,0,_,_=>by simp
 | a::xs,i+1,0,_,_=>by simp
 | a::xs,0,k+1,h,aa=>by
  grind
 | a::xs,i+1,k+1,h,aa=>by
  simp_all[List.set_cons_succ,List.take_succ_cons,List.all_cons,b9,YO]
theorem YP{α:Type}(f:α->Bool){x:α}:∀{xs:List α} {i k:Nat},((xs.drop k).all f=true)->f x=true->((xs.set i x).drop k).all f=true
 | [],_,_,_,_=>by simp
 | a::xs,0,0,h,aa=>by
  grind
 | a::xs,i+1,0,h,aa=>by
  grind
 | a::xs,0,k+1,h,_=>by simpa using h
 | a::xs,i+1,k+1,h,aa=>by
  have:=YP f (xs:=xs) (i:=i) (k:=k) (by simpa using h) aa;simpa using this
variable{c:aV}{e:Int}
theorem qN{x:aN}(h:b0 c 0=some x):hs e c=eC x e:=by
 grind[hs]
variable{x:aN}
theorem avQ(aj:x.bV.length=4)(he:0<=e/\e<=3):(!gr e (ez x e))=true:=by
 grind[gr,ez,Dz]
section
variable {e : Int} {c : aV} {t u : bO} {x : aN}
theorem ZE(aa:b0 c t.place=some x)(k:Nat):hc e (setW (cO c e u) t.place (ez x e)) k=hc e c k:=by
 have:=A2 (fB e) (ez x e) (k:=k) (dU aa).2.2;rw[show fB e (ez x e)=fB e x from rfl,Int.sub_self,ite_self,Int.add_zero]at this;exact this
end
theorem Still.quiet(h:Still c)(e:Int):quiet e c:=by
 refine⟨fun x aa=>?_,?_⟩
 ·obtain⟨h1,U,aA⟩:=h.1 x aa;grind[pU]
 unfold jl;rw[xS (g:=fun _=>0) fun l aj=>by unfold pQ iI;rw[h.2.1 l aj];rfl,DE]
theorem avR{S:Int}{t:bO}{cv:aN}(h:lf S c)(ai:Still c)(he:0<=e/\e<=3)(bE:b0 c 0=some cv)(aF:eC cv e=false)(bG:h4 c e=some t)(aa:b0 c t.place=some x)
  (rm:(dB c e t x).2=true):jw e (dB c e t x).1+1<=jw e c/\((dB c e t x).1.news=c.news\/((dB c e t x).1.news.length+1=c.news.length+c.ao.length/\hs e (dB c e t x).1=true)):=by
 obtain⟨fM,gO,nK⟩:=dU aa;obtain⟨_,F3,_⟩:=tg.1 (Ak h.ok bG);have tX:=(DA (iJ h.ok aa)).2.1;have hw:=avQ tX he;have total:hc e c c.ao.length=0:=by rw[(h.inv e he).total,(ai.quiet e).2];rfl
 have al:jw e c=qQ e c t:=by
  simp_all[jw,bq,qN,decide]
 have hlen:∀u:bO,(setW (cO c e u) t.place (ez x e)).ao.length=c.ao.length:=fun u=>iN
 have mB:∀u:bO,jw e (setW (cO c e u) t.place (ez x e))<=qQ e (setW (cO c e u) t.place (ez x e)) u:=fun u=>by
  unfold jw;rw[show h4 (setW (cO c e u) t.place (ez x e)) e=some u from PN bG];grind
 rcases pT c e t x with⟨k,_⟩ | ⟨_,hp,⟨ar,k⟩ | ⟨ar,rB,k⟩ | ⟨ar,rB,aq,k⟩ | ⟨ar,rB,aq,k⟩⟩
 ·grind
 ·
  rw[k];refine⟨?_,.inl rfl⟩;have aL:=F3 ar;refine mW (Nat.add_le_add_right (mB _) 1) ?_;rw[al];unfold qQ;rw[hlen,ar];dsimp only;have sF:((c.ao.length:Int)-1).toNat+1=c.ao.length:=by omega
  rw[sF,bh (rfl:true=true),bq (show ¬(false=true) by decide)];have tl:oe e (setW (cO c e ⟨true,(c.ao.length:Int)-1,0,false,x.bl.getD e.toNat false⟩) t.place (ez x e)) c.ao.length=true:=by
   simp_all[oe,List.drop_of_length_le,fl]
  rw[tl,bh (rfl:true=true)];by_cases sL:oe e c 1=true
  ·rw[bh sL];have br:q' e (setW (cO c e ⟨true,(c.ao.length:Int)-1,0,false,x.bl.getD e.toNat false⟩) t.place (ez x e)) ⟨true,(c.ao.length:Int)-1,0,false,x.bl.getD e.toNat false⟩=true:=by
    unfold q';dsimp only;rw[sF,ZE aa,total];have:tz e (setW (cO c e ⟨true,(c.ao.length:Int)-1,0,false,x.bl.getD e.toNat false⟩) t.place (ez x e)) c.ao.length=true:=by
     unfold tz;rw[wV (by grind)];change (c.ao.set t.place.toNat (ez x e)).all _=true;rw[aL];unfold oe at sL;cases aCR:c.ao with
     | nil=>grind
     | cons y ys=>
      grind
    grind
   grind
  grind
 ·
  rw[k];refine⟨?_,.inl rfl⟩;refine mW (Nat.add_le_add_right (mB _) 1) ?_;rw[al];unfold qQ;rw[hlen,ar];dsimp only;have sF:(t.place-1).toNat+1=t.place.toNat:=by omega
  rw[sF,bh (rfl:true=true),bh (rfl:true=true)];by_cases br:q' e c t=true
  ·rw[bh br];have aCW:q' e (setW (cO c e ⟨true,t.place-1,t.sum+x.bP.getD e.toNat 0,t.bV||x.bV.getD e.toNat false,t.b7||x.bl.getD e.toNat false⟩) t.place (ez x e)) ⟨true,t.place-1,t.sum+x.bP.getD e.toNat 0,t.bV||x.bV.getD e.toNat false,t.b7||x.bl.getD e.toNat false⟩=true:=by
    unfold q' at br ⊢;simp only[b9,gQ,cc]at br;obtain⟨⟨f1,f2⟩,f3⟩:=br;dsimp only;rw[sF,ZE aa];rw[HY nK]at f3;unfold tz at f2;rw[p6,nK,yY,List.all_append,b9]at f2;have dk:x.bV.getD e.toNat false=false:=by
     have:=f2.2;simp only[List.all_cons,List.all_nil,tF,gQ]at this;exact this
    have:tz e (setW (cO c e ⟨true,t.place-1,t.sum+x.bP.getD e.toNat 0,t.bV||x.bV.getD e.toNat false,t.b7||x.bl.getD e.toNat false⟩) t.place (ez x e)) t.place.toNat=true:=by
     unfold tz;exact YO _ f2.1 hw
    grind[hc,fB,o4]
   grind
  rw[bq br];by_cases sL:oe e c (t.place.toNat+1)=true
  ·rw[bh sL];have:oe e (setW (cO c e ⟨true,t.place-1,t.sum+x.bP.getD e.toNat 0,t.bV||x.bV.getD e.toNat false,t.b7||x.bl.getD e.toNat false⟩) t.place (ez x e)) t.place.toNat=true:=by
    unfold oe;change ((c.ao.set t.place.toNat (ez x e)).drop t.place.toNat).all _=true;have aj:t.place.toNat<(c.ao.set t.place.toNat (ez x e)).length:=by grind
    rw[List.drop_eq_getElem_cons aj,List.all_cons,List.getElem_set_self,hw,lb];exact YP _ sL hw
   grind
  grind
 ·
  rw[k];have aL:t.place=0:=by omega
  rw[aL]at nK;have pq:hs e (gA (setW (cO c e ⟨false,t.place,t.sum,t.bV,t.b7⟩) 0 (told x e (t.b7||x.bl.getD e.toNat false))) (c.news++gf (c.ao.length-1) e (t.b7||x.bl.getD e.toNat false)))=true:=by
   unfold hs;rw[show b0 (gA (setW (cO c e ⟨false,t.place,t.sum,t.bV,t.b7⟩) 0 (told x e (t.b7||x.bl.getD e.toNat false))) (c.news++gf (c.ao.length-1) e (t.b7||x.bl.getD e.toNat false))) 0=some (told x e (t.b7||x.bl.getD e.toNat false)) from mP nK];grind[wh]
  refine⟨?_,.inr ⟨?_,pq⟩⟩
  ·unfold jw;rw[bh pq];change 0+1<=jw e c;rw[al];unfold qQ;grind
  grind[gA,lH,gf,cp,wZ]
 -- Bm round was in aD2
 rw[k];refine⟨?_,.inl rfl⟩;have aL:t.place=0:=by omega
 rw[aL]at nK;have adU:q' e c t=false:=by
  rw[u5];intro br;unfold q' at br;simp only[b9,gQ,cc]at br;obtain⟨⟨f1,f2⟩,f3⟩:=br;rw[aL]at f2 f3;have ai:hc e c 1=fB e x:=by rw[HY (k:=0) nK];simp[hc]
  refine aq ⟨f1,?_,?_⟩
  ·unfold tz at f2;change (c.ao.take 1).all _=true at f2;simp_all[p6,some,yY,List.all_append,b9,gr]
  grind[hc,fB]
 have vx:jw e (cO c e ⟨false,t.place,t.sum,t.bV,t.b7⟩)<=qQ e (cO c e ⟨false,t.place,t.sum,t.bV,t.b7⟩) ⟨false,t.place,t.sum,t.bV,t.b7⟩:=by
  unfold jw;rw[show h4 (cO c e ⟨false,t.place,t.sum,t.bV,t.b7⟩) e=some ⟨false,t.place,t.sum,t.bV,t.b7⟩ from PN bG];grind
 refine mW (Nat.add_le_add_right vx 1) ?_;rw[al];unfold qQ;rw[ar,adU];dsimp only;rw[bq (show ¬(false=true) by decide),bh (rfl:true=true),bq (show ¬(false=true) by decide),aL];change (if oe e c 1=true then _ else _)+1<=(if oe e c 1=true then _ else _);by_cases sL:oe e c 1=true
 ·rw[bh sL,bh sL];change c.ao.length+1+1<=0+1+(c.ao.length+1);omega
 rw[bq sL,bq sL];change 2*c.ao.length+2+1<=0+1+(2*c.ao.length+2);omega
theorem DI{i:Int}{d:aV}{y:aN}(aa:b0 c i=some x)(hw:d.ao=c.ao.set i.toNat y)(bG:h4 d e=h4 c e)(aq:gr e y=gr e x)(ai:fB e y=fB e x)(aF:eC x e=true->eC y e=true):jw e d<=jw e c:=by
 obtain⟨fM,gO,nK⟩:=dU aa;have hlen:d.ao.length=c.ao.length:=by grind
 have FW:∀{β:Type} (f:aN->β),f y=f x->d.ao.map f=c.ao.map f:=fun f br=>by
  grind[ks,A4]
 have aDd:=FW (fun z=>!gr e z) (by rw[aq]);have adQ:=FW (fB e) ai;have e1:∀k,oe e d k=oe e c k:=fun k=>by
  have:∀ws:List aN,(ws.drop k).all (fun z=>!gr e z)=((ws.map fun z=>!gr e z).drop k).all id:=fun ws=>by
   rw[<-List.map_drop,List.all_map];rfl
  grind[oe]
 have e2:∀k,tz e d k=tz e c k:=fun k=>by
  have:∀ws:List aN,(ws.take k).all (fun z=>!gr e z)=((ws.map fun z=>!gr e z).take k).all id:=fun ws=>by
   rw[<-tE,List.all_map];rfl
  grind[tz]
 have cx:∀k,hc e d k=hc e c k:=fun k=>by
  grind[hc,tE]
 have eD:∀t,qQ e d t=qQ e c t:=fun t=>by
  grind[qQ,q']
 unfold jw;by_cases vx:hs e d=true
 ·grind
 have aCT:¬hs e c=true:=fun al=>vx (by
  unfold hs b0 at al ⊢;grind)
 grind
theorem avi{f:Int}{t:bO}(he:0<=e)(br:0<=f)(cU:f≠e)(aa:b0 c t.place=some x):jw e (dB c f t x).1<=jw e c:=by
 have Eh:gr e (ez x f)=gr e x:=by
  grind[gr,ez,xP,A5]
 rcases pT c f t x with⟨_,k⟩ | ⟨_,_,⟨_,k⟩ | ⟨_,_,k⟩ | ⟨_,bE,_,k⟩ | ⟨_,_,_,k⟩⟩
 ·grind
 ·rw[k];exact DI aa rfl (wi he br cU) Eh rfl id
 ·rw[k];exact DI aa rfl (wi he br cU) Eh rfl id
 ·rw[k];have aL:t.place=0:=by have:=(dU aa).1;omega
  rw[aL]at aa;exact DI aa rfl (wi he br cU) rfl rfl fun q=>by rw[wh,q,Bool.true_or]
 rw[k];exact DI (y:=x) aa (A4 (dU aa).2.2).symm (wi he br cU) rfl rfl id
theorem avj{S:Int}{d:aV}{p:b6}(h:lf S c)(ai:Still c)(aP:c.ao.length<=3)(st:Step c p d):Still d/\tm d<tm c:=by
 have still:5<p.kind->Still d:=fun hk=>by
  have IK:=Zz st hk;refine⟨fun x aa=>?_,fun l aj=>ai.2.1 l (IK.bQ▸aj),fun a b l dw aj=>ai.2.2 a b l dw ((IK.eA a b).symm.trans aj)⟩;obtain⟨i,hi⟩:=List.getElem?_of_mem aa;obtain⟨z,aL⟩:=cV (xs:=c.ao) (i:=i) (by have:=a6 hi;rw[IK.len]at this;exact this);obtain⟨y,bk,gD,hN,abx⟩:=IK.w i z aL;rw[hi]at bk;cases bk;rw[gD,hN,abx];exact ai.1 z (cB aL)
 cases st with
 | work x r q hk aa df aC=>
  have:=(ai.1 x (cB (dU aa).2.2)).1;grind
 | input x r t hk aa df aC hi=>
  have:=(ai.1 x (cB (dU aa).2.2)).2.2;grind
 | eU x r t hk aa df aW=>
  have:=(ai.1 x (cB (dU aa).2.2)).2.1;grind
 | send x r t l hk aa df aW aj hsend=>
  have:=(ai.1 x (cB (dU aa).2.2)).2.1;grind
 | take l x hk dw aj aa bG=>
  obtain⟨_,r,q,aC,_⟩:=vZ bG;have:=ai.2.1 l (cB (hJ aj).2.2);grind
 | qb l hk dw aj al=>
  rcases v7 l with⟨k,_⟩ | ⟨_,_,aq,_⟩
  ·grind
  exact absurd (ai.2.2 _ _ l dw aj) aq
 | token t x cv hk iu bE aF bG aa rm=>
  refine⟨still (by omega),?_⟩;simp only[aw,cc]at iu;obtain⟨b8,bt⟩:=avR h ai iu bE aF bG aa rm;have aDJ:∀e:Int,0<=e->p.a≠e->jw e (dB c p.a t x).1<=jw e c:=fun e he cU=>avi he iu.1 cU aa
  grind[dB,tm,decide]
 | qm k n x hk sE aF aa=>
  refine⟨still (by omega),?_⟩;obtain⟨s1,s2,_⟩:fB 0 (ea x n)=fB 0 x/\gr 0 (ea x n)=gr 0 x/\h9 0 (ea x n)=h9 0 x:=IE;have o:∀e:Int,jw e (gA (setW c p.a (ea x n)) (cutAt c.news k))<=jw e c:=fun e=>by
   obtain⟨s1,s2,_⟩:=IE (x:=x) (n:=n) (e:=e);exact DI (y:=ea x n) aa rfl rfl s2 s1 fun q=>by rw[ID,q,Bool.true_or]
  have aj:(cutAt c.news k).length+1=c.news.length:=by
   grind[a6,cutAt,lH,u7,List.length_drop]
  have zO:=o 0;have dt:=o 1;have dm:=o 2;have eY:=o 3;unfold tm;change 3*_+(cutAt c.news k).length<_;omega
end Go.Proofs.YtdchjefneblpgaaGreat
namespace Go.Proofs.YtdchjefneblpgaaGreat
open Go.Sx Go.RowKit Go.Proofs.Tryz
structure Fin (e:Int) (c:aV):Prop where
 first:hs e c=false->oc c e=false/\nJ c e=false
 reach:hs e c=true->∀(i:Nat) x,0<i->c.ao[i]?=some x->eC x e=true\/∃n∈c.news,n.dest=i/\n.aU=e
 flag:∃b:Bool,(∀x∈c.ao,∀d∈x.b1,d.aU=e->d.b7=b)/\(∀n∈c.news,n.aU=e->n.b7=b)/\(hs e c=true->b=false->∀x∈c.ao,h9 e x=false)
variable{c:aV}
theorem Bp{x:aN}(h:b0 c 0=some x):c.ao[0]?=some x:=(dU h).2.2
theorem xV{e i:Int}{d:aV}{x y:aN}(h:Fin e c)(sP:Inv e c)(aa:b0 c i=some x)(hw:d.ao=c.ao.set i.toNat y)(aP:d.news=c.news)(aF:y.b1=x.b1)(al:kH x e=true->h9 e y=h9 e x):Fin e d:=by
 obtain⟨i0,i1,i2⟩:=dU aa;have pq:∀f,eC y f=eC x f:=fun f=>by grind[eC]
 have mB:hs e d=hs e c:=by
  unfold hs b0;grind
 refine⟨fun br=>?_,fun br j z a8 aL=>?_,?_⟩
 ·rw[mB]at br;obtain⟨t1,t2⟩:=h.first br
  grind[nJ,oc,fm,iB,cB]
 ·rw[mB]at br;rw[aP];rw[hw]at aL;rcases xO aL with⟨rfl,rfl⟩ | ⟨_,aL⟩
  ·rw[pq];exact h.reach br _ x a8 i2
  exact h.reach br j z a8 aL
 obtain⟨b,eO,fo,l7⟩:=h.flag;refine⟨b,fun z aL=>?_,by grind,fun br aq z aL=>?_⟩
 ·grind
 rw[mB]at br;rw[hw]at aL;rcases iB aL with aL | rfl
 ·grind
 have aC:=(sP.Bl (by
  have ai:hs e c=true:=br;obtain⟨cv,nn⟩:∃cv,b0 c 0=some cv:=oV (by decide) (by omega);rw[qN nn]at ai;rw[oi];exact .inl (oj.2 ⟨cv,cB (Bp nn),ai⟩))).1 x (cB i2)
 grind
theorem Fin.step{e:Int}{d:aV}{p:b6}(h:Fin e c)(sP:Inv e c)(he:0<=e/\e<=3)(bI:cr c=true)(st:Step c p d):Fin e d:=by
 cases st with
 | work x r q hk aa ai aC=>
  refine xV h sP aa rfl rfl rfl fun k=>?_
  obtain⟨b8,bt,eL⟩:=pU.1 k;rw[aC]at bt;have fI:=bt r (fN ..);have aB:=OI (h3.1 (iJ bI aa)).1 (r:=r) (by grind);grind[h9,xP,A5]
 | input x r t hk aa ai aC hi=>exact xV h sP aa rfl rfl rfl fun _=>rfl
 | eU x r t hk aa ai aW=>exact xV h sP aa rfl rfl rfl fun _=>rfl
 | send x r t l hk aa ai aW aj hsend=>exact xV h sP aa rfl rfl rfl fun _=>rfl
 | take l x hk dw aj aa bG=>exact xV h sP aa rfl rfl rfl fun _=>rfl
 | qb l hk dw aj al=>exact⟨h.first,h.reach,h.flag⟩
 | token t x cv hk iu bE aF bG aa rm=>
  rcases pT c p.a t x with⟨_,k⟩ | ⟨_,hp,⟨_,k⟩ | ⟨_,_,k⟩ | ⟨ar,rB,aq,k⟩ | ⟨_,_,_,k⟩⟩
  ·grind
  ·rw[k];exact xV h sP aa rfl rfl rfl fun _=>rfl
  ·rw[k];exact xV h sP aa rfl rfl rfl fun _=>rfl
  ·rw[k];have aL:t.place=0:=by have:=(dU aa).1;omega
   rw[aL,bE]at aa;obtain rfl:cv=x:=gX aa;obtain⟨i0,i1,i2⟩:=dU bE;simp only[aw,cc]at iu;have mB:hs e (gA (setW (cO c p.a ⟨false,t.place,t.sum,t.bV,t.b7⟩) 0 (told cv p.a (t.b7||cv.bl.getD p.a.toNat false))) (c.news++gf (c.ao.length-1) p.a (t.b7||cv.bl.getD p.a.toNat false)))=(eC cv e||p.a==e):=by
    unfold hs;rw[show b0 (gA (setW (cO c p.a ⟨false,t.place,t.sum,t.bV,t.b7⟩) 0 (told cv p.a (t.b7||cv.bl.getD p.a.toNat false))) (c.news++gf (c.ao.length-1) p.a (t.b7||cv.bl.getD p.a.toNat false))) 0=some (told cv p.a (t.b7||cv.bl.getD p.a.toNat false)) from mP i2];exact wh
   by_cases Cj:p.a=e
   ·subst Cj;have adf:hs p.a c=false:=by grind[qN]
    obtain⟨t1,t2⟩:=h.first adf
    obtain⟨_,fP⟩:=sP.over bG ar rB (by grind) hp aq;refine⟨fun br=>?_,fun _ j z a8 gl=>?_,⟨t.b7||h9 p.a cv,fun z gl d mb Ca=>?_,fun n ky cU=>?_,fun _ er z gl=>?_⟩⟩
    ·grind
    ·right;have kY:=a6 gl;rw[show (gA (setW (cO c p.a ⟨false,t.place,t.sum,t.bV,t.b7⟩) 0 (told cv p.a (t.b7||cv.bl.getD p.a.toNat false))) (c.news++gf (c.ao.length-1) p.a (t.b7||cv.bl.getD p.a.toNat false))).ao.length=c.ao.length from iN]at kY;refine⟨⟨((j-1:Nat):Int)+1,p.a,t.b7||cv.bl.getD p.a.toNat false⟩,hP _ (fV.2 ⟨j-1,List.mem_range.2 (by omega),rfl⟩),?_,rfl⟩;grind
    ·rcases iB gl with gl | rfl
     ·exfalso;unfold oc at t1;rw[fm]at t1;exact t1 z gl (oj.2 ⟨d,mb,by grind⟩)
     rcases gg.1 mb with mb | mb
     ·exfalso;rw[u5]at aF;exact aF (oj.2 ⟨d,mb,by grind⟩)
     obtain rfl:d=⟨p.a,t.b7||cv.bl.getD p.a.toNat false⟩:=by grind
     rfl
    ·rcases gg.1 ky with ky | ky
     ·grind[nJ,fm]
     obtain⟨_,_,rfl⟩:=fV.1 ky;rfl
    rcases iB gl with gl | rfl
    ·exact fP er z gl
    exact fP er cv (cB i2)
   have Sv:(p.a==e)=false:=by grind
   rw[Sv,Bool.or_false]at mB;have Kp:hs e c=eC cv e:=qN bE;have pq:eC (told cv p.a (t.b7||cv.bl.getD p.a.toNat false)) e=eC cv e:=by rw[wh,Sv,Bool.or_false]
   refine⟨fun br=>?_,fun br j z a8 gl=>?_,?_⟩
   ·rw[mB,<-Kp]at br;obtain⟨t1,t2⟩:=h.first br
    refine⟨?_,(Ye Cj).trans t2⟩;unfold oc at t1 ⊢;rw[fm]at t1 ⊢;intro z gl;rcases iB gl with gl | rfl
    ·exact t1 z gl
    grind
   ·rw[mB,<-Kp]at br;rcases xO gl with⟨rfl,rfl⟩ | ⟨_,gl⟩
    ·grind
    rcases h.reach br j z a8 gl with b4 | ⟨n,b4,cQ⟩
    ·exact .inl b4
    exact .inr ⟨n,gE _ b4,cQ⟩
   obtain⟨b,eO,fo,l7⟩:=h.flag;refine⟨b,fun z gl d mb Ca=>?_,fun n ky cU=>?_,fun br er z gl=>?_⟩
   ·rcases iB gl with gl | rfl
    ·exact eO z gl d mb Ca
    rcases gg.1 mb with mb | mb
    ·grind
    grind
   ·rcases gg.1 ky with ky | ky
    ·grind
    obtain⟨_,_,rfl⟩:=fV.1 ky;grind
   rw[mB,<-Kp]at br;rcases iB gl with gl | rfl
   ·exact l7 br er z gl
   exact l7 br er cv (cB i2)
  rw[k];exact⟨h.first,h.reach,h.flag⟩
 | qm k n x hk aP aF aa=>
  obtain⟨i0,i1,i2⟩:=dU aa;have aDi:n∈c.news:=cB aP;have R8:∀m∈cutAt c.news k,m∈c.news:=fun m hm=>by
   grind[cutAt,tB,wW]
  have R9:∀m∈c.news,m∈cutAt c.news k\/m=n:=fun m hm=>by
   obtain⟨j,a8⟩:=List.getElem?_of_mem hm;unfold cutAt;by_cases h1:j<k
   ·exact .inl (gE _ (cB (i:=j) (by grind)))
   by_cases U:j=k
   ·grind
   refine .inl (hP _ (cB (i:=j-(k+1)) ?_));grind
  have pq:∀f,eC (ea x n) f=(eC x f||n.aU==f):=fun f=>ID
  have mB:hs e (gA (setW c p.a (ea x n)) (cutAt c.news k))=true->hs e c=true:=by
   intro br;cases al:hs e c with
   | true=>rfl
   | false=>
    obtain⟨t1,t2⟩:=h.first al
    exfalso;have aDW:∀m∈c.news,m.aU≠e:=fun m hm aDe=>by
     grind[nJ,fm]
    have aDZ:∀z∈c.ao,eC z e=false:=fun z aL=>by
     grind[oc,fm]
    obtain⟨cv,nn⟩:∃cv,b0 (gA (setW c p.a (ea x n)) (cutAt c.news k)) 0=some cv:=oV (by decide) (by grind[gA,setW,ea,cutAt,iN]);rw[qN nn]at br;have hm:=cB (Bp nn);rcases iB hm with hm | rfl
    ·grind
    grind
  have aCS:hs e c=true->hs e (gA (setW c p.a (ea x n)) (cutAt c.news k))=true:=by
   intro al;obtain⟨cv,nn⟩:∃cv,b0 c 0=some cv:=oV (by decide) (by omega);rw[qN nn]at al;by_cases hi:p.a.toNat=0
   ·have SM:x=cv:=by
     grind
    subst SM;rw[qN (x:=ea x n) (show b0 (gA (setW c p.a (ea x n)) (cutAt c.news k)) 0=some (ea x n) by
     unfold b0;rw[bh (by decide)];change (c.ao.set p.a.toNat (ea x n))[0]?=_;grind),pq,al,Bool.true_or]
   rw[qN (x:=cv) (show b0 (gA (setW c p.a (ea x n)) (cutAt c.news k)) 0=some cv by
    unfold b0;rw[bh (by decide)];exact A3 (Bp nn) (fun q=>hi q.symm))]
   exact al
  refine⟨fun br=>?_,fun br j z a8 aL=>?_,?_⟩
  ·have al:hs e c=false:=by
    grind
   obtain⟨t1,t2⟩:=h.first al
   unfold oc at t1 ⊢;unfold nJ at t2 ⊢;rw[fm]at t1 t2 ⊢;refine⟨fun z aL=>?_,?_⟩
   ·rcases iB aL with aL | rfl
    ·exact t1 z aL
    grind
   rw[fm];exact fun m hm=>t2 m (R8 m hm)
  ·have al:=mB br;rcases xO aL with⟨rfl,rfl⟩ | ⟨cU,aL⟩
   ·rw[pq];rcases h.reach al _ x a8 i2 with b4 | ⟨m,b4,cQ,dz⟩
    ·grind
    rcases R9 m b4 with b4 | rfl
    ·exact .inr ⟨m,b4,cQ,dz⟩
    grind
   rcases h.reach al j z a8 aL with b4 | ⟨m,b4,cQ,dz⟩
   ·exact .inl b4
   rcases R9 m b4 with b4 | rfl
   ·exact .inr ⟨m,b4,cQ,dz⟩
   grind
  obtain⟨b,eO,fo,l7⟩:=h.flag;refine⟨b,fun z aL d mb Ca=>?_,fun m hm=>fo m (R8 m hm),fun br aq z aL=>?_⟩
  ·rcases iB aL with aL | rfl
   ·grind
   unfold ea at mb;split at mb
   ·grind
   rcases gg.1 mb with mb | mb
   ·grind
   grind
  rcases iB aL with aL | rfl
  ·grind
  rw[(IE (x:=x) (n:=n) (e:=e)).2.2];grind
end Go.Proofs.YtdchjefneblpgaaGreat
namespace Go.Proofs.YtdchjefneblpgaaGreat
open Go.Sx Go.RowKit Go.Proofs.Tryz
def cu(e:Int)(c:aV):Nat:=if hs e c=true then 0 else 1
def sm(c:aV):Prop:=c.news.length+2*(cu 0 c+cu 1 c+cu 2 c+cu 3 c)<=8
variable{c d:aV}{i e:Int}{x:aN}
theorem avk{y:aN}(aa:b0 c i=some x)(hw:d.ao=c.ao.set i.toNat y)(h:eC x e=true->eC y e=true):hs e c=true->hs e d=true:=by
 intro al;obtain⟨_,_,nK⟩:=dU aa;unfold hs b0 at al ⊢;grind
theorem DJ{d:aV}{y:aN}(aa:b0 c i=some x)(hw:d.ao=c.ao.set i.toNat y)(h:eC x e=true->eC y e=true):cu e d<=cu e c:=by
 unfold cu;by_cases al:hs e c=true
 ·rw[bh al,bh (avk aa hw h al)];grind
 grind
theorem vM{y:aN}(h:sm c)(aa:b0 c i=some x)(hw:d.ao=c.ao.set i.toNat y)(aF:∀e,eC x e=true->eC y e=true)(aP:d.news.length<=c.news.length):sm d:=by
 have fC:=DJ (d:=d) aa hw (aF 0);have gV:=DJ (d:=d) aa hw (aF 1);have kq:=DJ (d:=d) aa hw (aF 2);have u3:=DJ (d:=d) aa hw (aF 3);grind[sm]
theorem sm.step{p:b6}(h:sm c)(aj:c.ao.length<=3)(st:Step c p d):sm d:=by
 cases st with
 | work x r q hk aa ai aC=>exact vM h aa rfl (fun _ k=>k) (fl _)
 | input x r t hk aa ai aC hi=>exact vM h aa rfl (fun _ k=>k) (fl _)
 | eU x r t hk aa ai aW=>exact vM h aa rfl (fun _ k=>k) (fl _)
 | send x r t l hk aa ai aW ni hsend=>exact vM h aa rfl (fun _ k=>k) (fl _)
 | take l x hk dw ni aa bG=>exact vM h aa rfl (fun _ k=>k) (fl _)
 | qb l hk dw ni al=>exact h
 | token t x cv hk iu bE aF bG aa rm=>
  rcases pT c p.a t x with⟨_,k⟩ | ⟨_,_,⟨_,k⟩ | ⟨_,_,k⟩ | ⟨_,rB,_,k⟩ | ⟨_,_,_,k⟩⟩
  ·grind
  ·rw[k];exact vM h aa rfl (fun _ k=>k) (fl _)
  ·rw[k];exact vM h aa rfl (fun _ k=>k) (fl _)
  ·rw[k];have aL:t.place=0:=by have:=(dU aa).1;omega
   rw[aL,bE]at aa;obtain rfl:cv=x:=gX aa;simp only[aw,cc]at iu;generalize FF:gA (setW (cO c p.a ⟨false,t.place,t.sum,t.bV,t.b7⟩) 0 (told cv p.a (t.b7||cv.bl.getD p.a.toNat false))) (c.news++gf (c.ao.length-1) p.a (t.b7||cv.bl.getD p.a.toNat false))=D;have hw:D.ao=c.ao.set (0:Int).toNat (told cv p.a (t.b7||cv.bl.getD p.a.toNat false)):=by rw[<-FF];rfl
   have xp:D.news.length<=c.news.length+2:=by
    grind[gA,lH,gf,cp,wZ]
   have mono:∀e,cu e D<=cu e c:=fun e=>DJ bE hw fun k=>by rw[wh,k,Bool.true_or]
   have own:cu p.a D=0/\cu p.a c=1:=by
    have aCA:b0 D 0=some (told cv p.a (t.b7||cv.bl.getD p.a.toNat false)):=by
     simp_all[b0,bh,decide,mP,dU]
    simp_all[cu,qN,wh]
   grind[sm,own]
  rw[k];exact h
 | qm k n x hk aP aF aa=>
  refine vM (y:=ea x n) h aa rfl (fun e q=>by rw[ID,q,Bool.true_or]) ?_;exact W6 _ _
structure Live (P:lj) (S:Int) (c:aV):Prop where
 run:qZ P S c
 fin:∀e:Int,0<=e/\e<=3->Fin e c
 news:sm c
 small:c.ao.length<=3
variable{P:lj}{S:Int}
theorem Live.step(h:Live P S c)(io:S<200000)(p:b6):Live P (S+1) (c7 c p).1:=by
 have h1:=h.run.step io p;have aj:=(Pr c p).wS;rcases v8 c p with⟨_,U⟩ | ⟨_,_,st⟩
 ·rw[U]at h1 ⊢;exact⟨h1,h.fin,h.news,h.small⟩
 exact⟨h1,fun e he=>(h.fin e he).step (h.run.all.inv e he) he h.run.all.ok st,h.news.step h.small st,by rw[aj];exact h.small⟩
theorem Live.runs:∀(l:List b6) {S:Int} {c:aV},Live P S c->S+l.length<=200000->Live P (S+l.length) (cE c l).1
 | [],S,c,h,_=>by grind[cE]
 | p::l,S,c,h,io=>by
  simp only[fO]at io ⊢;have:=Live.runs l (h.step (by omega) p) (by omega);simp only[cE];rw[show S+((l.length+1:Nat):Int)=S+1+l.length by omega];exact this
theorem Live.mono{T:Int}(h:Live P S c)(jG:S<=T):Live P T c:=⟨⟨h.run.all.mono jG,h.run.of⟩,h.fin,h.news,h.small⟩
variable{g:bF}{xs:List ay}
theorem Live.new(ar:kL g)(aa:∀r∈xs,Input r)(aj:xs.length<=5):∃P:lj,P.xs=xs/\Live P 0 (dn g xs):=by
 have aP:=zZ ar (by omega) aa;obtain⟨⟨k,a,b,c,v,hk,ae,aq,_,bD,ky⟩,hw,_⟩:=ar;have SK:∀x∈(dn g xs).ao,∃w:Nat,x=mm (own g xs w):=fun x aa=>by
  obtain⟨i,hi⟩:=List.getElem?_of_mem aa;exact⟨i,(A6 hi).1⟩
 have hlen:(dn g xs).ao.length=g.ao.toNat:=wa g xs _;have mB:∀e,hs e (dn g xs)=false:=fun e=>by
  obtain⟨cv,nn⟩:∃cv,b0 (dn g xs) 0=some cv:=oV (by decide) (by grind);rw[qN nn];obtain⟨w,rfl⟩:=SK cv (cB (Bp nn));rfl
 refine⟨⟨k,a,b,c,v,xs⟩,rfl,⟨lf.new aP,hk,ae,aq,bD,ky,aa,⟨fun x hF r aB=>?_,fun l aj r aB=>?_,fun x hF r aB=>?_⟩⟩,fun e he=>⟨fun _=>⟨?_,rfl⟩,fun br=>?_,⟨false,fun x hF d aF=>?_,fun n aP=>?_,fun br=>?_⟩⟩,?_,by grind⟩
 ·grind[mm]
 ·rw[List.eq_of_mem_replicate aj]at aB;grind[kp]
 ·obtain⟨w,rfl⟩:=SK x hF;exact (H4 aB).1
 ·grind[oc,fm,eC,mm]
 ·grind
 ·grind[mm]
 ·grind[dn]
 ·grind
 grind[sm,cu,dn]
theorem H'{e:Int}(h:lf S c)(aj:c.ao.length<=3):jw e c<=11:=by
 unfold jw;split
 ·omega
 cases bG:h4 c e with
 | none=>grind
 | some t=>
  obtain⟨⟨h1,U⟩,_⟩:=tg.1 (Ak h.ok bG);have nU:=(fe.1 h.ok).2.1;grind[qQ]
theorem avl(h:Live P S c):tm c<=140:=by
 have t0:=H' (e:=0) h.run.all h.small;have t1:=H' (e:=1) h.run.all h.small;have t2:=H' (e:=2) h.run.all h.small;have t3:=H' (e:=3) h.run.all h.small;have aP:=h.news;grind[sm,tm]
theorem ZF(b:Bool)(l:List Bool):nd (b::l)=(if b=true then 1 else 0)+nd l:=by
 grind[nd]
theorem Ia:∀(l:List b6) {S:Int} {c:aV},Live P S c->S+l.length<=200000->Still c->Still (cE c l).1/\tm (cE c l).1+nd (cE c l).2<=tm c
 | [],S,c,_,_,ai=>⟨ai,fl _⟩
 | p::l,S,c,h,io,ai=>by
  simp only[fO]at io;simp only[cE,ZF];rcases v8 c p with⟨b8,bt⟩ | ⟨_,b8,st⟩
  ·rw[bt,b8,bq (by decide),dV];exact Ia l (h.mono (T:=S+1) (by omega)) (by omega) ai
  obtain⟨s1,s2⟩:=avj h.run.all ai h.small st;obtain⟨i1,i2⟩:=Ia l (h.step (by omega) p) (by omega) s1;grind
theorem ZG:∀(l:List b6) (c:aV),nd (cE c l).2=0->(cE c l).1=c/\∀p∈l,(c7 c p).2=false
 | [],c,_=>⟨rfl,fun p hp=>by cases hp⟩
 | p::l,c,h=>by
  simp only[cE,ZF]at h ⊢;cases aq:(c7 c p).2 with
  | true=>grind
  | false=>
   rw[aoy aq]at h ⊢;obtain⟨h1,U⟩:=ZG l c (by omega);refine⟨h1,fun q aC=>?_⟩;rcases dQ.1 aC with rfl | aC
   ·exact aq
   exact U q aC
theorem ZH{P:lj}:∀(m:Nat) {S:Int} {c:aV} (k M:Nat),Live P S c->S+44*m<=200000->M<m->((Still c/\tm c<=M)\/gx P c+141<=M)->
  ∃(d:aV) (j:Nat) (T:Int),eQ m c k=(d,k+j)/\j<=M+1/\Live P T d/\T<=200000/\d.ax=c.ax/\∀p∈fL d,(c7 d p).2=false
 | 0,S,c,k,M,_,_,acJ,_=>by omega
 | m+1,S,c,k,M,h,io,acJ,al=>by
  obtain⟨_,FL⟩:=P7 (ih (fe.1 h.run.all.ok).1);unfold eQ;by_cases bE:(hK c).2=0
  ·rw[bh bE];obtain⟨gv,gT⟩:=ZG (fL c) c bE;exact⟨c,1,S,by grind[hK],by omega,h,by omega,rfl,gT⟩
  rw[bq bE];have aj:Live P (S+44) (hK c).1:=(h.runs (fL c) (by omega)).mono (by omega);have KE:=(DB c).ax;have next:(Still (hK c).1/\tm (hK c).1<=M-1)\/gx P (hK c).1+141<=M-1:=by
   by_cases ai:Still c
   ·obtain⟨s1,s2⟩:=Ia (fL c) h (by omega) ai;grind[nd,cE,fL,Nat.pos_of_ne_zero,hK,avl]
   rcases al with⟨al,_⟩ | al
   ·grind
   have bM:=atw h.run (by omega) ai;grind
  have aCG:1<=M:=by
   rcases al with⟨ai,al⟩ | al
   ·obtain⟨_,s2⟩:=Ia (fL c) h (by omega) ai;have aF:0<nd (cE c (fL c)).2:=Nat.pos_of_ne_zero bE;omega
   omega
  obtain⟨d,j,T,e1,e2,cx,eD,iS,nf⟩:=ZH m (k+1) (M-1) aj (by omega) (by omega) next;exact⟨d,j+1,T,by grind,by omega,cx,eD,iS.trans KE,nf⟩
structure JB (c:aV):Prop where
 still:Still c
 done:∀e:Int,0<=e/\e<=3->∀x∈c.ao,eC x e=true
 news:c.news=[]
theorem avm(he:0<=e/\e<=3):(⟨6,e,0⟩:b6)∈fL c:=by
 have FN:e=0\/e=1\/e=2\/e=3:=by omega
 unfold fL;refine hP _ ?_;rcases FN with rfl | rfl | rfl | rfl<;>decide
theorem Live.ended{T:Int}(h:Live P T c)(jG:T<=200000)(iU:∀p∈fL c,(c7 c p).2=false):JB c:=by
 have bI:=h.run.all.ok;obtain⟨ar,nU,_⟩:=fe.1 bI;have aP:=ih ar;have ai:Still c:=Zy bI fun p hp _=>⟨c,T,bI,h.run.all.kR,jG,.rfl,iU p hp⟩
 have ke:c.news=[]:=by
  cases ky:c.news with
  | nil=>rfl
  | cons n ns=>
   exfalso;have aq:=Pp bI (k:=0) (n:=n) (by rw[ky];rfl);simp only[lU,aw,fw,jf,cc]at aq;obtain⟨w,hw⟩:∃w:Nat,n.dest=w:=⟨n.dest.toNat,by omega⟩
   obtain⟨x,aa⟩:∃x,b0 c (w:Int)=some x:=oV (by omega) (by omega);have hp:=iU ⟨7,w,0⟩ (by
    unfold fL;rw[P6 aP];exact gE _ (gE _ (Zx (w:=w) (by omega) (by simp[jV]))))
   have br:c.news.findIdx? (fun m=>m.dest==(w:Int))=some 0:=by
    grind
   have bU:c7 c ⟨7,(w:Int),0⟩=jU c w:=rfl;simp_all[jU,bh]
 refine⟨ai,fun e he x aa=>?_,ke⟩;obtain⟨cv,nn⟩:∃cv,b0 c 0=some cv:=oV (by decide) (by omega);obtain⟨t,bG⟩:=XG bI (e:=e) (by simp_all[aw,cc]);obtain⟨⟨jm,ux⟩,_⟩:=tg.1 (Ak bI bG);obtain⟨y,bk⟩:∃y,b0 c t.place=some y:=oV jm (by omega);have mB:eC cv e=true:=by
  refine Classical.byContradiction fun aF=>?_
  have aF:eC cv e=false:=by grind
  have hp:=iU ⟨6,e,0⟩ (avm he);have bu:c7 c ⟨6,e,0⟩=dB c e t y:=by
   change ix c e=_;unfold ix;rw[bh (by simp_all[aw,lb,cc]),nn,bG];grind
  rw[bu]at hp;have ad2:=(ai.quiet e).1 y (cB (dU bk).2.2);unfold dB at hp;rw[bh ad2]at hp;cases ar:t.going with
  | false=>grind
  | true=>
   rw[ar,bq (by decide)]at hp;split at hp
   ·split at hp
    ·cases hp
    rename_i adx;refine adx ?_;have eO:=h.run.all.kR.wP t (cB (ye bG).2.2) ar;have fo:=h.run.all.kR.at bk e.toNat;simp only[aw,cc];omega
   grind
 obtain⟨i,hi⟩:=List.getElem?_of_mem aa;by_cases lM:i=0
 ·grind[Bp]
 rcases (h.fin e he).reach (by grind[qN]) i x (by omega) hi with r | ⟨n,r,_⟩
 ·exact r
 grind
theorem avn(ar:kL g)(aa:∀r∈xs,Input r)(aj:xs.length<=5)(zl:P.xs=xs)(al:Live P S c)(io:S<=60000)(aDk:gx P c<=xs.length*554):
  ∃(d:aV) (j:Nat) (T:Int),jX c 3000=(d,j)/\j<3000/\Live P T d/\T<=200000/\d.ax=c.ax/\JB d/\∀p∈fL d,(c7 d p).2=false:=by
 have aq:(hG 3000 0 3000).toNat=3000:=by decide
 obtain⟨d,j,T,e1,e2,cx,eD,iS,nf⟩:=ZH (P:=P) 3000 (c:=c) 0 2911 al (by omega) (by omega) (.inr (by omega));refine⟨d,j,T,?_,by omega,cx,eD,iS,cx.ended eD nf,nf⟩;simp_all[jX,dV]
theorem ZI:∀(l:List b6) {S:Int} {c:aV},qZ P S c->S+l.length<=200000->gx P (cE c l).1<=gx P c
 | [],_,c,_,_=>fl _
 | p::l,S,c,h,io=>by
  simp only[fO]at io;have dL:=ZI l (h.step (by omega) p) (by omega);simp only[cE];rcases v8 c p with⟨_,bt⟩ | ⟨_,_,st⟩
  ·rw[bt]at dL ⊢;exact dL
  have:=Zt h.of h.all.owns h.all.ok st;omega
structure Grown (g:bF) (xs:List ay) (c:aV):Prop where
 drawn:kL g
 input:∀r∈xs,Input r
 few:xs.length<=5
 live:∃(P:lj) (S:Int),P.xs=xs/\Live P S c/\S<=60000/\gx P c<=xs.length*554
 ax:c.ax=g
theorem Grown.new(ar:kL g)(aa:∀r∈xs,Input r)(aj:xs.length<=5):Grown g xs (dn g xs):=by
 obtain⟨P,zl,h⟩:=Live.new ar aa aj;subst zl;exact⟨ar,aa,aj,⟨P,0,rfl,h,by omega,Zv (zZ ar (by omega) aa) aa⟩,rfl⟩
end Go.Proofs.YtdchjefneblpgaaGreat
namespace Go.Proofs.YtdchjefneblpgaaGreat
open Go.Sx Go.RowKit Go.Proofs.Tryz
def kI(x:aN)(e:Int):cz×Bool:=
 match x.b1.find? (fun d=>d.aU==e) with
 | some d=>(d,true)
 | none=>(⟨0,false⟩,false)
theorem ZJ(x:aN)(e:Int)(aa:x.sz<=8388608):av 17 [.agg x.e,.one (I e)] [.agg (kI x e).1.e,.one (B (kI x e).2)]:=by
 have aj:x.b1.length<=8388608:=by simp only[aN.sz]at aa;omega
 let st:=fun i:Nat=>yB e i 0 false (x.queue.map ay.e) (x.cj.map ay.e) (x.bX.map ay.e) (x.cells.map Cell.e) (x.bP.map bd) (x.bV.map cF) (x.bl.map cF) (x.b1.map cz.e)
 have step:∀i,i<x.b1.length->(∀b,x.b1[i]?=some b->(b.aU==e)=false)->gi prog (ap f17 0) (st i) .normal (st (i+1)):=by
  intro i hi h;obtain⟨a,ae⟩:=cV hi;exact aAb ⟨bT hi,bx,bA hi,bw cz.e ae,h a ae,cP hi aj,ad⟩
 rcases HX (fun d:cz=>d.aU==e) x.b1 with⟨h1,U⟩ | ⟨i,a,h1,U,aA,aI⟩
 ·simp only[kI,h1];have l:=dO (ci 0) x.b1.length st (fun i hi=>step i hi fun b aq=>U b (cB aq)) (aAc ⟨dq,ad⟩);exact azo ⟨l,ad⟩
 simp only[kI,aA];have hi:=a6 h1;have l:=dO eZ i st (fun j a8=>step j (by omega) fun b aq=>aI j b a8 aq) (aAa ⟨bT hi,bx,bA hi,bw cz.e h1,U,bx,bA hi,bw cz.e h1,ad⟩);exact aAd ⟨l,ad⟩
theorem avo(x:aN)(e:Int)(aa:x.sz<=8388608):av 139 [.agg x.e,.one (I e)] [.agg (kI x e).1.e,.one (B (kI x e).2)]:=by
 have aj:x.b1.length<=8388608:=by simp only[aN.sz]at aa;omega
 let st:=fun i:Nat=>yC (x.b1.map cz.e) e i 0 false
 have step:∀i,i<x.b1.length->(∀b,x.b1[i]?=some b->(b.aU==e)=false)->gi prog (ap f139 0) (st i) .normal (st (i+1)):=by
  intro i hi h;obtain⟨a,ae⟩:=cV hi;exact azq ⟨bT hi,bx,bA hi,bw cz.e ae,h a ae,cP hi aj,ad⟩
 rcases HX (fun d:cz=>d.aU==e) x.b1 with⟨h1,U⟩ | ⟨i,a,h1,U,aA,aI⟩
 ·simp only[kI,h1];have l:=dO (ci 0) x.b1.length st (fun i hi=>step i hi fun b aq=>U b (cB aq)) (azr ⟨dq,ad⟩);exact azt ⟨l,ad⟩
 simp only[kI,aA];have hi:=a6 h1;have l:=dO eZ i st (fun j a8=>step j (by omega) fun b aq=>aI j b a8 aq) (azp ⟨bT hi,bx,bA hi,bw cz.e h1,U,ad⟩);exact azs ⟨l,ad⟩
end Go.Proofs.YtdchjefneblpgaaGreat
namespace Go.Proofs.YtdchjefneblpgaaGreat
open Go.Sx Go.RowKit Go.Proofs.Tryz
theorem avp{x:aN}{e:Int}{b:Bool}(aF:eC x e=true)(aq:∀d∈x.b1,d.aU=e->d.b7=b):kI x e=(⟨e,b⟩,true):=by
 unfold kI;unfold eC at aF;rw[oj]at aF;cases br:x.b1.find? (fun d=>d.aU==e) with
 | none=>
  rw[List.find?_eq_none]at br;obtain⟨d,h1,U⟩:=aF;exact absurd U (br d h1)
 | some d=>
  have h1:=List.mem_of_find?_eq_some br;have U:d.aU=e:=by simpa using List.find?_some br
  have aA:=aq d h1 U;obtain⟨aCj,nc⟩:=d;simp only at U aA;rw[U,aA]
theorem avq{P:lj}{T:Int}{c:aV}(h:Live P T c)(he:JB c){e:Int}(aI:0<=e/\e<=3):∃f:cz,(∀x∈c.ao,kI x e=(f,true))/\(f.b7=false->∀x∈c.ao,h9 e x=false):=by
 obtain⟨b,eO,fo,l7⟩:=(h.fin e aI).flag;refine⟨⟨e,b⟩,fun x aa=>avp (he.done e aI x aa) (eO x aa),fun br x aa=>?_⟩;obtain⟨ar,nU,_⟩:=fe.1 h.run.all.ok;have aP:=ih ar;obtain⟨cv,nn⟩:∃cv,b0 c 0=some cv:=oV (by decide) (by omega);exact l7 (by rw[qN nn];exact he.done e aI cv (cB (Bp nn))) br x aa
end Go.Proofs.YtdchjefneblpgaaGreat
namespace Go.Proofs.YtdchjefneblpgaaGreat
open Go.Sx Go.RowKit Go.Proofs.Tryz
def ik(c:aV)(r:ay):Prop:=(∃x∈c.ao,r∈x.queue\/r∈x.cj)\/∃l∈c.bQ,r∈l.queue
def vd(e:Int)(c:aV)(z:Cell):Prop:=∃x∈c.ao,∃r∈x.bX,r.bf.aU=e/\cellOf r=z
def jP(c:aV)(i:Nat):List Cell:=match c.ao[i]? with | some x=>x.cells | none=>[]
def Te(n k:Int):Nat:=(ec k n).toNat
def vi(e:Int)(c:aV):Prop:=∃x∈c.ao,h9 e x=true
def mn(e:Int)(xs:List ay)(c:aV):Prop:=∃H,p9 c.ax (r0 c.ax e xs) (lS e xs) e H (ik c) (vd e c) (jP c) (Te c.ax.ao) (vi e c)
section
variable {c : aV} {i : Int} {x y : aN} {l m : bC} {r : ay}
theorem yM(aa:b0 c i=some x)(h:ik c r):(r∈x.queue\/r∈x.cj)\/ik (setW c i y) r:=by
 rcases h with⟨z,aL,h⟩ | h
 ·obtain⟨j,a8⟩:=List.getElem?_of_mem aL;by_cases kX:j=i.toNat
  ·subst kX;rw[(dU aa).2.2]at a8;cases a8;exact .inl h
  exact .inr (.inl ⟨z,cB (A3 a8 kX),h⟩)
 exact .inr (.inr h)
theorem Bd(h:ik (setW c i y) r):ik c r\/(r∈y.queue\/r∈y.cj):=by
 rcases h with⟨z,aL,h⟩ | h
 ·rcases iB aL with aL | rfl
  ·exact .inl (.inl ⟨z,aL,h⟩)
  exact .inr h
 exact .inl (.inr h)
theorem oW(aa:b0 c i=some x)(h:r∈y.queue\/r∈y.cj):ik (setW c i y) r:=.inl ⟨y,cB (mP (dU aa).2.2),h⟩
theorem r9(aa:b0 c i=some x)(h:r∈x.queue\/r∈x.cj):ik c r:=.inl ⟨x,cB (dU aa).2.2,h⟩
theorem PG(aj:eA c i=some l)(h:ik c r):r∈l.queue\/ik (c3 c i m) r:=by
 rcases h with h | ⟨z,aL,h⟩
 ·exact .inr (.inl h)
 obtain⟨j,a8⟩:=List.getElem?_of_mem aL;by_cases kX:j=i.toNat
 ·subst kX;rw[(hJ aj).2.2]at a8;cases a8;exact .inl h
 exact .inr (.inr ⟨z,cB (A3 a8 kX),h⟩)
theorem PH(h:ik (c3 c i m) r):ik c r\/r∈m.queue:=by
 rcases h with h | ⟨z,aL,h⟩
 ·exact .inl (.inl h)
 rcases iB aL with aL | rfl
 ·exact .inl (.inr ⟨z,aL,h⟩)
 exact .inr h
theorem PI(aj:eA c i=some l)(h:r∈m.queue):ik (c3 c i m) r:=.inr ⟨m,cB (mP (hJ aj).2.2),h⟩
theorem Ib(aj:eA c i=some l)(h:r∈l.queue):ik c r:=.inr ⟨l,cB (hJ aj).2.2,h⟩
variable{e:Int}
theorem ZK{z:Cell}(aa:b0 c i=some x)(h:vd e c z):(∃r∈x.bX,r.bf.aU=e/\cellOf r=z)\/vd e (setW c i y) z:=by
 obtain⟨w,hw,h⟩:=h;obtain⟨j,a8⟩:=List.getElem?_of_mem hw;by_cases kX:j=i.toNat
 ·subst kX;rw[(dU aa).2.2]at a8;cases a8;exact .inl h
 exact .inr ⟨w,cB (A3 a8 kX),h⟩
theorem DK{z:Cell}(aa:b0 c i=some x)(bk:y.bX=x.bX)(h:vd e c z):vd e (setW c i y) z:=by
 rcases ZK (y:=y) aa h with⟨r,aB,h⟩ | h
 ·exact⟨y,cB (mP (dU aa).2.2),r,by rw[bk];exact aB,h⟩
 exact h
theorem PJ(aa:b0 c i=some x)(j:Nat):jP (setW c i y) j=if j=i.toNat then y.cells else jP c j:=by
 unfold jP setW;dsimp only;by_cases a8:j=i.toNat
 ·rw[bh a8,a8,mP (dU aa).2.2]
 rw[bq a8,o3,bq (fun q=>a8 q.symm)]
theorem ZL(aa:b0 c i=some x):jP c i.toNat=x.cells:=by
 unfold jP;rw[(dU aa).2.2]
theorem DL(aa:b0 c i=some x)(bk:y.cells=x.cells)(j:Nat):jP (setW c i y) j=jP c j:=by
 rw[PJ aa];split
 ·rename_i a8;rw[a8,ZL aa,bk]
 rfl
theorem Be(aa:b0 c i=some x)(bk:h9 e x=true->h9 e y=true)(h:vi e c):vi e (setW c i y):=by
 obtain⟨w,hw,h⟩:=h;obtain⟨j,a8⟩:=List.getElem?_of_mem hw;by_cases kX:j=i.toNat
 ·subst kX;rw[(dU aa).2.2]at a8;cases a8;exact⟨y,cB (mP (dU aa).2.2),bk h⟩
 exact⟨w,cB (A3 a8 kX),h⟩
end
variable{e:Int}{xs:List ay}{c:aV}
theorem DM{i:Int}{x y:aN}(h:mn e xs c)(aa:b0 c i=some x)(h1:y.queue=x.queue)(U:y.cj=x.cj)(aA:y.bX=x.bX)(aI:y.cells=x.cells)(a':y.bl=x.bl){d:aV}(aF:d.ao=(setW c i y).ao)(aj:d.bQ=c.bQ)(KE:d.ax=c.ax):mn e xs d:=by
 obtain⟨H,h⟩:=h;have Tg:∀q,ik d q<->ik (setW c i y) q:=fun q=>by unfold ik;rw[aF,aj];rfl
 refine⟨H,?_⟩;rw[KE];refine h.move (fun j=>?_) (fun k=>?_) (fun q aC=>?_) (fun q aC _=>.inl ?_) (fun z aL=>.inl ?_)
 ·rw[<-DL (y:=y) aa aI j];unfold jP;rw[aF]
 ·have:=Be (y:=y) aa (by unfold h9;rw[a'];exact id) k;unfold vi at this ⊢;rw[aF];exact this
 ·rw[Tg];rcases yM (y:=y) aa aC with k | k
  ·exact oW aa (by rw[h1,U];exact k)
  exact k
 ·rcases Bd ((Tg q).1 aC) with k | k
  ·exact k
  exact r9 aa (by rw[h1,U]at k;exact k)
 have:=DK (y:=y) aa aA aL;unfold vd at this ⊢;rw[aF];exact this
theorem avr{r:ay}(aB:r∈xs)(he:r.bf.aU=e)(bI:dM r=true)(bE:r.op=0):cellOf r∈lS e xs:=by
 unfold lS;refine fV.2 ⟨r,List.mem_filter.2 ⟨List.mem_filter.2 ⟨aB,by simpa using he⟩,bI⟩,?_⟩;unfold cellsOf cellOf;rw[bE,he]
theorem mn.step {e : Int} {xs : List ay} {c d : aV} {p : b6} (h : mn e xs c) (he : 0 <= e /\ e <= 3) (bI : cr c = true) (gw : jE c) (iu : ∀ x ∈ c.ao, ∀ r ∈ x.bX, r ∈ xs) (st : Step c p d) : mn e xs d := by
  have ar := (fe.1 bI).1;have FA := X' ar he xs;have nil : ∀ x, gY (fun a => a ∈ r0 c.ax e xs \/ a ∈ ([] : List Cell)) x -> gY (fun a => a ∈ r0 c.ax e xs) x := fun x aa => aa.mono fun a ae => .self (ae.resolve_right (by simp))
  cases st with
  | work x r q hk aa ai aC =>
    obtain ⟨H, h⟩ := h;have aq := (h3.1 (iJ bI aa)).1;have aC8 := (DA (iJ bI aa)).2.2;rw [aC, pR] at aq;have kz := r3 aq.1;have Sq := ZL aa;have SB : r ∈ x.queue := by rw [aC]; exact fN ..
    have ac0 : h9 e x = true -> h9 e (⟨q, (dh c.ax x.cells r).2.1, x.bX, (dh c.ax x.cells r).1, x.bP, x.bV, (if b7 c.ax r then x.bl.set r.bf.aU.toNat true else x.bl), x.b1⟩ : aN) = true := by
      intro k;unfold h9 at k ⊢;dsimp only;split
      · by_cases sy : r.bf.aU.toNat = e.toNat
        · rw [sy, Dz (by omega)]
        rw [xP sy]; exact k
      exact k
    generalize bk : (⟨q, (dh c.ax x.cells r).2.1, x.bX, (dh c.ax x.cells r).1, x.bP, x.bV, (if b7 c.ax r then x.bl.set r.bf.aU.toNat true else x.bl), x.b1⟩ : aN) = y at *;have abX : y.queue = q := by rw [← bk]
    have ys : y.cj = (dh c.ax (jP c p.a.toNat) r).2.1 := by rw [← bk, Sq]
    have aBV : y.cells = (dh c.ax (jP c p.a.toNat) r).1 := by rw [← bk, Sq]
    have aBW : y.bX = x.bX := by rw [← bk]
    have y3 : ∀ a, ik c a -> ik (setW c p.a y) a \/ a = r := fun a ae => by
      rcases yM (y := y) aa ae with k | k
      · rw [aC, ai] at k;rcases k with k | k
        · rcases dQ.1 k with rfl | k
          · exact .inr rfl
          exact .inl (oW aa (.inl (by rw [abX]; exact k)))
        cases k
      exact .inl k
    have ab1 : ∀ a ∈ (dh c.ax (jP c p.a.toNat) r).2.1, ik (setW c p.a y) a := fun a ae => oW aa (.inr (by rw [ys]; exact ae))
    have Ru : ∀ a, ik (setW c p.a y) a -> ik c a \/ a ∈ (dh c.ax (jP c p.a.toNat) r).2.1 := fun a ae => by
      rcases Bd ae with k | k
      · exact .inl k
      rcases k with k | k
      · exact .inl (r9 aa (.inl (by rw [aC]; rw [abX] at k; exact ff _ k)))
      exact .inr (by rw [ys] at k; exact k)
    have m1 : jP (setW c p.a y) p.a.toNat = (dh c.ax (jP c p.a.toNat) r).1 := by rw [PJ aa, bh rfl, aBV]
    have m2 : ∀ j, j ≠ p.a.toNat -> jP (setW c p.a y) j = jP c j := fun j a8 => by rw [PJ aa, bq a8]
    have c1 : vi e c -> vi e (setW c p.a y) := Be aa ac0;have Rr : ∀ z, vd e c z -> vd e (setW c p.a y) z := fun z aL => DK aa aBW aL
    by_cases sy : r.bf.aU = e
    · have := h.work ar (fun z aL w hw => nil w (FA.closed z aL w hw)) (fun z aL => (FA.fit z (.inl aL)).2.1) (i := p.a.toNat) (oL := jP (setW c p.a y)) (kO := ik (setW c p.a y)) (tN := vi e (setW c p.a y)) aq.1 sy (r9 aa (.inl SB)) (by have := (gw.at aa).1 r SB; unfold Te; omega) y3 ab1 Ru m1 m2 c1 (fun Ko => ⟨y, cB (mP (dU aa).2.2), by
          rw [← bk];unfold h9;dsimp only;rw [bh Ko, sy, Dz (by omega)]⟩)
      exact ⟨_, this.move (fun _ => rfl) id (fun _ k => k) (fun _ k _ => .inl k) fun z aL => .inl (Rr z aL)⟩
    have := h.other ar (i := p.a.toNat) (oL := jP (setW c p.a y)) (kO := ik (setW c p.a y)) (tN := vi e (setW c p.a y)) aq.1 sy y3 Ru m1 m2 c1;exact ⟨_, this.move (fun _ => rfl) id (fun _ k => k) (fun _ k _ => .inl k) fun z aL => .inl (Rr z aL)⟩
  | input x r t hk aa ai aC hi =>
    obtain ⟨H, h⟩ := h;have aq := (h3.1 (iJ bI aa)).2.2.1;have Sh := (h3.1 (iJ bI aa)).2.2.2.2.2.2.2.1;rw [hi] at aq Sh;rw [pR] at aq;have aB := aq.1;simp only [ig, fw, jf] at aB;have ps : r.op = 0 := by
      have := DU Sh (i := 0) (a := r) rfl;unfold mg at this;simp only [fw, bne_eq_false_iff_eq] at this;exact this.1.1
    have KY := iu x (cB (dU aa).2.2) r (by rw [hi]; exact fN ..);refine ⟨H, h.move (DL aa rfl) (Be aa id) (fun a ae => ?_) (fun a ae zn => ?_) (fun z aL => ?_)⟩
    · rcases yM (y := ⟨[r], [], t, x.cells, x.bP, x.bV, x.bl, x.b1⟩) aa ae with k | k
      · rw [aC, ai] at k; simp at k
      exact k
    · rcases Bd ae with k | k
      · exact .inl k
      obtain rfl : a = r := by simpa using k
      have hm := avr KY zn aB.1 ps;exact .inr ⟨nil _ (FA.ins _ hm), OF ar he _ hm⟩
    rcases ZK (y := ⟨[r], [], t, x.cells, x.bP, x.bV, x.bl, x.b1⟩) aa aL with ⟨a, ae, zn, R2⟩ | k
    · rw [hi] at ae;rcases dQ.1 ae with rfl | ae
      · exact .inr ⟨a, oW aa (.inl (fN ..)), zn, R2⟩
      exact .inl ⟨_, cB (mP (dU aa).2.2), a, ae, zn, R2⟩
    exact .inl k
  | eU x r t hk aa ai aW =>
    obtain ⟨H, h⟩ := h;refine ⟨H, h.move (DL aa rfl) (Be aa id) (fun a ae => ?_) (fun a ae _ => .inl ?_) (fun z aL => .inl (DK aa rfl aL))⟩
    · rcases yM (y := kept (hI x t) r) aa ae with k | k
      · rw [ai] at k;rcases k with k | k
        · exact oW aa (.inl (gE _ k))
        rcases dQ.1 k with rfl | k
        · exact oW aa (.inl (hP _ (fN ..)))
        exact oW aa (.inr k)
      exact k
    rcases Bd ae with k | k | k
    · exact k
    · rcases gg.1 k with k | k
      · exact r9 aa (.inl k)
      obtain rfl : a = r := by simpa using k
      exact r9 aa (.inr (by rw [ai]; exact fN ..))
    exact r9 aa (.inr (by rw [ai]; exact ff _ k))
  | send x r t l hk aa ai aW aj hsend =>
    obtain ⟨H, h⟩ := h;obtain ⟨_, _, _, e1⟩ := Ap hsend;have sU : (ei l r).1.queue = l.queue ++ [r] := by rw [e1]
    generalize (ei l r).1 = m at *;generalize F1 : dT c.ax p.a (ec r.key c.ax.ao) = k at *;have hF : b0 (c3 c k m) p.a = some x := aa;refine ⟨H, h.move (fun j => (DL (y := lD (hI x t) r.bf.aU) hF rfl j).trans rfl) (fun q => Be (c := c3 c k m) hF id q) (fun a ae => ?_) (fun a ae _ => .inl ?_) (fun z aL => .inl (DK (c := c3 c k m) hF rfl aL))⟩
    · rcases PG (m := m) aj ae with q | q
      · have := PI (m := m) aj (r := a) (by rw [sU]; exact gE _ q);rcases yM (y := lD (hI x t) r.bf.aU) hF this with eP | eP
        · rw [ai] at eP;rcases eP with eP | eP
          · exact oW hF (.inl eP)
          rcases dQ.1 eP with rfl | eP
          · exact .inr ⟨m, cB (mP (hJ aj).2.2), by rw [sU]; exact gE _ q⟩
          exact oW hF (.inr eP)
        exact eP
      rcases yM (y := lD (hI x t) r.bf.aU) hF q with eP | eP
      · rw [ai] at eP;rcases eP with eP | eP
        · exact oW hF (.inl eP)
        rcases dQ.1 eP with rfl | eP
        · exact .inr ⟨m, cB (mP (hJ aj).2.2), by rw [sU]; exact hP _ (fN ..)⟩
        exact oW hF (.inr eP)
      exact eP
    rcases Bd ae with q | q | q
    · rcases PH q with q | q
      · exact q
      rw [sU] at q;rcases gg.1 q with q | q
      · exact Ib aj q
      obtain rfl : a = r := by simpa using q
      exact r9 aa (.inr (by rw [ai]; exact fN ..))
    · exact r9 aa (.inl q)
    exact r9 aa (.inr (by rw [ai]; exact ff _ q))
  | take l x hk dw aj aa bG =>
    obtain ⟨H, h⟩ := h;obtain ⟨_, r, q, aC, e2, e1⟩ := vZ bG;have sU : (dF l).1.queue = q := by rw [e1]
    rw [e2];generalize (dF l).1 = m at *;generalize F1 : dT c.ax p.a p.b = k at *;have hF : b0 (c3 c k m) p.b = some x := aa;refine ⟨H, h.move (fun j => (DL (y := jY x r) hF rfl j).trans rfl) (fun q => Be (c := c3 c k m) hF id q) (fun a ae => ?_) (fun a ae _ => .inl ?_) (fun z aL => .inl (DK (c := c3 c k m) hF rfl aL))⟩
    · have CM : ∀ a, ik (c3 c k m) a -> ik (setW (c3 c k m) p.b (jY x r)) a := fun a q => by
        rcases yM (y := jY x r) hF q with eP | eP
        · rcases eP with eP | eP
          · exact oW hF (.inl (gE _ eP))
          exact oW hF (.inr eP)
        exact eP
      rcases PG (m := m) aj ae with q1 | q1
      · rw [aC] at q1;rcases dQ.1 q1 with rfl | q1
        · exact oW hF (.inl (hP _ (fN ..)))
        exact CM a (PI aj (by rw [sU]; exact q1))
      exact CM a q1
    rcases Bd ae with q1 | q1 | q1
    · rcases PH q1 with q1 | q1
      · exact q1
      exact Ib aj (by rw [aC]; rw [sU] at q1; exact ff _ q1)
    · rcases gg.1 q1 with q1 | q1
      · exact r9 aa (.inl q1)
      obtain rfl : a = r := by simpa using q1
      exact Ib aj (by rw [aC]; exact fN ..)
    exact r9 aa (.inr q1)
  | qb l hk dw aj al =>
    obtain ⟨H, h⟩ := h;rcases v7 l with ⟨k, _⟩ | ⟨_, _, _, e1⟩
    · rw [al] at k; cases k
    have sU : (fK l).1.queue = l.queue := by rw [e1]
    refine ⟨H, h.move (fun _ => rfl) id (fun a ae => ?_) (fun a ae _ => .inl ?_) (fun z aL => .inl aL)⟩
    · rcases PG (m := (fK l).1) aj ae with k | k
      · exact PI aj (by rw [sU]; exact k)
      exact k
    rcases PH ae with k | k
    · exact k
    exact Ib aj (by rw [sU] at k; exact k)
  | token t x cv hk aC4 bE aF bG aa rm =>
    rcases pT c p.a t x with ⟨_, k⟩ | ⟨_, _, ⟨_, k⟩ | ⟨_, _, k⟩ | ⟨_, rB, _, k⟩ | ⟨_, _, _, k⟩⟩
    · rw [k]; exact h
    · rw [k]; exact DM h (y := ez x p.a) aa rfl rfl rfl rfl rfl rfl rfl rfl
    · rw [k]; exact DM h (y := ez x p.a) aa rfl rfl rfl rfl rfl rfl rfl rfl
    · rw [k];have aL : t.place = 0 := by have := (dU aa).1; omega
      rw [aL] at aa;exact DM h (y := told x p.a (t.b7 || x.bl.getD p.a.toNat false)) aa rfl rfl rfl rfl rfl rfl rfl rfl
    rw [k]; exact DM h (y := x) aa rfl rfl rfl rfl rfl (A4 (dU aa).2.2).symm rfl rfl
  | qm k n x hk aP aF aa =>
    refine DM h (y := ea x n) aa ?_ ?_ ?_ ?_ ?_ rfl rfl rfl <;> (unfold ea; split <;> rfl)
variable{g:bF}
theorem awi{r:ay}(aB:r∈xs)(he:0<=r.bf.aU/\r.bf.aU<=3):r∈own g xs (ec r.key g.ao):=by
 unfold own nu uv;refine l2.2 ⟨r.bf.aU.toNat,List.mem_range.2 (by omega),List.mem_filter.2 ⟨aB,?_⟩⟩;simp only[b9,iL];exact⟨by omega,ad⟩
theorem mn.new(h:iY g xs=true)(e:Int):mn e xs (dn g xs):=by
 obtain⟨ar,_,aq⟩:=yj.1 h;have aP:=ih ar;have aeU:∀r,¬ik (dn g xs) r:=by
  rintro r (⟨x,aa,k⟩ | ⟨l,aj,k⟩)
  ·obtain⟨i,hi⟩:=List.getElem?_of_mem aa;obtain⟨rfl,_⟩:=A6 hi;simp[mm]at k
  rw[List.eq_of_mem_replicate aj]at k;simp[kp]at k
 have S7:∀x,¬lg e (fun _=>False) (ik (dn g xs)) x:=by
  rintro x (aa | ⟨r,aB,_⟩)
  ·exact aa
  exact aeU r aB
 have S8:∀i,jP (dn g xs) i=[]:=fun i=>by
  unfold jP;cases hw:(dn g xs).ao[i]? with
  | none=>rfl
  | some x=>
   obtain⟨rfl,_⟩:=A6 hw;rfl
 refine⟨fun _=>False,fun x aa=>.inl ?_,fun x aa=>absurd aa (S7 x),fun x aa=>absurd aa (S7 x),fun _ x aa=>aa.elim,fun i z aL=>(by rw[S8]at aL;cases aL),fun x aa=>aa.elim,fun i z aL=>(by rw[S8]at aL;cases aL)⟩;simp only[lS,fV,List.mem_filter,iI]at aa;obtain⟨r,⟨⟨aB,kz⟩,bI⟩,rfl⟩:=aa;have kz:r.bf.aU=e:=by simpa using kz
 rw[fm]at aq;have aq:=aq r aB;simp only[nF,oi,gQ,bne_iff_ne,lc,not_or,Bool.not_eq_false,Decidable.not_not]at aq;have ade:0<=r.bf.aU/\r.bf.aU<=3:=by
  have:=aq.1.1;simp only[dM,hZ,aw,b9,cc]at this;omega
 have aW:=Al r.key aP.1;simp only[aw,cc]at aW;have hw:(dn g xs).ao[(ec r.key g.ao).toNat]?=some (mm (own g xs (ec r.key g.ao))):=by
  change (mO g xs g.ao.toNat)[(ec r.key g.ao).toNat]?=_;unfold mO;rw[eg,List.getElem?_range (by omega)];simp only[si];rw[Int.toNat_of_nonneg aW.1]
 refine⟨_,cB hw,r,awi aB ade,kz,?_⟩;unfold cellOf cellsOf;rw[aq.1.2,kz]
variable{P:lj}
theorem awj{S:Int}(h:Live P S c)(p:b6)(he:0<=e/\e<=3)(ar:mn e P.xs c):mn e P.xs (c7 c p).1:=by
 rcases v8 c p with⟨_,U⟩ | ⟨_,_,st⟩
 ·rw[U];exact ar
 exact ar.step he h.run.all.ok h.run.all.owns h.run.of.Qd.i st
theorem PK(he:0<=e/\e<=3):∀(l:List b6) {S:Int} {c:aV},Live P S c->S+l.length<=200000->mn e P.xs c->mn e P.xs (cE c l).1
 | [],_,_,_,_,ar=>ar
 | p::l,S,c,h,io,ar=>by
  simp only[fO]at io;exact PK he l (h.step (by omega) p) (by omega) (awj h p he ar)
theorem ZM(he:0<=e/\e<=3):∀(m:Nat) {S:Int} {c:aV} (k:Nat),Live P S c->S+44*m<=200000->mn e P.xs c->mn e P.xs (eQ m c k).1
 | 0,_,_,_,_,_,ar=>ar
 | m+1,S,c,k,h,io,ar=>by
  obtain⟨_,FL⟩:=P7 (ih (fe.1 h.run.all.ok).1);have h1:Live P (S+44) (hK c).1:=(h.runs (fL c) (by omega)).mono (by omega);have g1:mn e P.xs (hK c).1:=PK he (fL c) h (by omega) ar;unfold eQ;split
  ·exact g1
  exact ZM he m (k+1) h1 (by omega) g1
theorem ZN(a:Cell):¬fS a a<0:=by
 rw[Pm];exact Wo _
theorem awk{jO sS:List Cell}(h1:jO.Pairwise fun a b=>fS a b<0)(U:sS.Pairwise fun a b=>fS a b<0)(h:∀a,a∈jO<->a∈sS):jO=sS:=by
 have bj:∀{l:List Cell},(l.Pairwise fun a b=>fS a b<0)->l.Nodup:=fun aj=>aj.imp fun {a b} dw=>by
  rintro rfl;exact ZN _ dw
 exact List.Perm.eq_of_pairwise (le:=fun a b=>fS a b<0) (fun a b _ _ b8 bt=>absurd (Io b8 bt) (ZN a)) h1 U ((List.perm_ext_iff_of_nodup (bj h1) (bj U)).2 h)
variable{z:Cell}
theorem ZO:∀{xs out:List Cell},z∈ko out xs<->z∈out\/z∈xs
 | [],out=>by simp[ko]
 | x::xs,out=>by
  change z∈ko (ie out x) xs<->_;rw[ZO,Oz,dQ];constructor
  ·rintro ((k | k) | k)
   ·exact .inr (.inl k)
   ·exact .inl k
   exact .inr (.inr k)
  rintro (k | k | k)
  ·exact .inl (.inr k)
  ·exact .inl (.inl k)
  exact .inr k
theorem ZP:∀{xs out:List Cell},(out.Pairwise fun a b=>fS a b<0)->(ko out xs).Pairwise fun a b=>fS a b<0
 | [],_,h=>h
 | x::xs,out,h=>by
  change (ko (ie out x) xs).Pairwise _;exact ZP (Pn x h)
theorem ZQ:∀{ws:List aN} {out:List Cell},(z∈ws.foldl (fun out w=>ko out w.cells) out<->z∈out\/∃w∈ws,z∈w.cells)
 | [],out=>by simp
 | w::ws,out=>by
  rw[List.foldl_cons,ZQ,ZO];constructor
  ·rintro ((k | k) | ⟨v,bD,k⟩)
   ·exact .inl k
   ·exact .inr ⟨w,fN ..,k⟩
   exact .inr ⟨v,ff _ bD,k⟩
  rintro (k | ⟨v,bD,k⟩)
  ·exact .inl (.inl k)
  rcases dQ.1 bD with rfl | bD
  ·exact .inl (.inr k)
  exact .inr ⟨v,bD,k⟩
theorem ZR:∀{ws:List aN} {out:List Cell},(out.Pairwise fun a b=>fS a b<0)->(ws.foldl (fun out w=>ko out w.cells) out).Pairwise fun a b=>fS a b<0
 | [],_,h=>h
 | w::ws,out,h=>by
  rw[List.foldl_cons];exact ZR (ZP h)
theorem awl:k2 g z=true<->sR g z.op=8:=by
 unfold k2 sR;cases dZ g z.op with
 | none=>simp
 | some n=>simp
theorem awm(h:mn e xs c)(he:0<=e/\e<=3)(bI:cr c=true)(ai:Still c)(fP:∀x∈c.ao,h9 e x=false):n4 c e=tj c.ax e xs:=by
 have ar:=(fe.1 bI).1;obtain⟨H,h⟩:=h;have FA:=X' ar he xs;have best:=Xx c.ax e xs;have fr:∀r,¬ik c r:=by
  rintro r (⟨x,aa,k⟩ | ⟨l,aj,k⟩)
  ·obtain⟨s1,s2,_⟩:=ai.1 x aa;rw[s1,s2]at k;simp at k
  rw[ai.2.1 l aj]at k;cases k
 obtain⟨f1,f2⟩:=h.final (by
   rintro⟨x,aa,k⟩;rw[fP x aa]at k;cases k) (fun q aC=>absurd aC (fr q)) (by
   rintro z ⟨x,aa,r,aB,_⟩;rw[(ai.1 x aa).2.2]at aB;cases aB) (fun K b8 bt eL=>asK ar he b8 bt eL) (fun a ae b aq mH=>Yc best ae aq mH) ar
 have qs:∀z,z∈rX c<->∃i,z∈jP c i:=fun z=>by
  unfold rX;rw[ZQ];constructor
  ·rintro (k | ⟨w,hw,k⟩)
   ·cases k
   obtain⟨i,hi⟩:=List.getElem?_of_mem hw;exact⟨i,by unfold jP;rw[hi];exact k⟩
  rintro⟨i,k⟩;unfold jP at k;cases hw:c.ao[i]? with
  | none=>rw[hw]at k;cases k
  | some w=>rw[hw]at k;exact .inr ⟨w,cB hw,k⟩
 refine awk ?_ ?_ fun z=>?_
 ·unfold n4 s3;exact ((ZR List.Pairwise.nil).filter _).filter _
 ·unfold tj s3;exact (asM).filter _
 unfold n4 tj s3;rw[List.mem_filter,List.mem_filter,List.mem_filter,awl,qs,iL];constructor
 ·rintro⟨⟨⟨i,aL⟩,cI⟩,jN⟩;exact⟨f1 i z aL jN cI,cI⟩
 rintro⟨aL,cI⟩;exact⟨⟨⟨_,f2 z aL cI⟩,cI⟩,(best.kR z aL).1⟩
theorem awn(ar:kL g)(aa:∀r∈xs,Input r)(aj:xs.length<=5)(ca:List b6)(hp:ca.length<=10000):
  ∃(d:aV) (j:Nat),jX (cE (dn g xs) ca).1 3000=(d,j)/\j<3000/\d.ax=g/\d.ao.length=g.ao.toNat/\cr d=true/\
   ∀e:Int,0<=e/\e<=3->∃f:cz,(∀w∈d.ao,kI w e=(f,true))/\(f.b7=false->n4 d e=tj g e xs):=by
 have aP:=zZ ar (by omega) aa;obtain⟨P,zl,bE⟩:=Live.new ar aa aj;subst zl;have h1:=bE.runs ca (by omega);have KS:=mW (ZI ca bE.run (by omega)) (Zv aP aa);have KB:(cE (dn g P.xs) ca).1.ax=g:=(Ao ca (dn g P.xs)).ax;obtain⟨d,j,T,e1,e2,cx,eD,iS,nf,_⟩:=avn ar aa aj rfl h1 (by omega) KS;have nU:d.ao.length=g.ao.toNat:=by
  have b8:=(PY (hG 3000 0 3000).toNat (cE (dn g P.xs) ca).1 0).wS;change (jX (cE (dn g P.xs) ca).1 3000).1.ao.length=_ at b8;rw[e1]at b8;rw[b8,(Ao ca (dn g P.xs)).wS];exact wa g P.xs _
 refine⟨d,j,e1,e2,iS.trans KB,nU,cx.run.all.ok,fun e he=>?_⟩;obtain⟨f,f1,f2⟩:=avq cx nf he;refine⟨f,f1,fun br=>?_⟩;have acA:mn e P.xs d:=by
  have xh:(hG 3000 0 3000).toNat=3000:=by decide
  have:=ZM he (hG 3000 0 3000).toNat 0 h1 (by omega) (PK he ca bE (by omega) (mn.new aP e));change mn e P.xs (jX (cE (dn g P.xs) ca).1 3000).1 at this;rwa[e1]at this
 have:=awm acA he cx.run.all.ok nf.still (f2 br);rwa[iS.trans KB]at this
