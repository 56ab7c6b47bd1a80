import Derived.Test.YtdchjefneblpgaaP86
set_option linter.unusedVariables false
set_option linter.unusedSimpArgs false
namespace Go.Proofs.Ytdchjefneblpgaa
open Go.Sx Go.RowKit
def oo(g:bz)(op:Int):Int:=match dd g op with | some n=>n.kind | none=>0
variable{g:bz}{n:Node}
theorem Rd{op:Int}(h:dd g op=some n):oo g op=n.kind:=by unfold oo;rw[h]
def jE(e:Int)(H:Cell->Prop)(hS:aQ->Prop)(x:Cell):Prop:=H x\/∃r,hS r/\r.bl.aV=e/\cellOf r=x
structure o0 (g:bz) (F ins:List Cell) (e:Int) (H:Cell->Prop) (hS:aQ->Prop) (In:Cell->Prop) (mem:Nat->List Cell) (kL:Int->Nat) (o8:Prop):Prop where
 CO:∀x∈ins,In x\/eX (jE e H hS) x
 below:∀x,jE e H hS x->eX (fun a=>a∈F) x
 fit:∀x,jE e H hS x->Fits g x/\x.aV=e
 close:¬o8->∀x,H x->∃a,H a/\ci x a=true/\a.val<=x.val/\∀y∈gO g a,eX (jE e H hS) y
 r3:∀i,∀z∈mem i,z.aV=e->H z/\kL z.key=i
 outs:∀x,H x->oo g x.op=8->∃z∈mem (kL x.key),ci x z=true/\z.val<=x.val
 sU:∀i,∀z∈mem i,∀rk∈mem i,z.aV=e->oo g z.op=8->ci z rk=true->z=rk
variable{r:aQ}
theorem LV(h:lD g r=false):c8 r=true/\∃n,dd g r.op=some n:=by
 simp only[lD,jU,sW,mG]at h;have bX:0<=r.op:=by
  have:=h.1;simp only[c8,af,b0,cF]at this;omega
 refine⟨h.1,?_⟩;unfold dd;rw[bb bX];exact cT (by omega)
theorem abz{cs:List Cell}(ag:cz g=true)(ar:lD g r=false):∀q∈(cO g cs r).2.1,cellOf q∈gO g (cellOf r):=by
 intro q aw;obtain⟨cb,n,aR⟩:=LV ar;rw[MH ag cb aR]at aw;have pu:dd g (cellOf r).op=some n:=aR;unfold gO;rw[pu];have ad:∀s:fl,s.aV=r.bl.aV->q∈fu n s (bL n r.key r.val).1 (bL n r.key r.val).2.1->cellOf q∈uD n (cellOf r) (bL n r.key r.val).1 (bL n r.key r.val).2.1:=by
  intro s vI hm;obtain⟨o,aM,rfl⟩:=eC.1 hm;exact eC.2 ⟨o,aM,by unfold cellOf;rw[vI]⟩
 have cl:(dm r.bl).1.aV=r.bl.aV:=by unfold dm;split<;>rfl
 split at aw
 ·cases aw
 rename_i ai;split at aw
 ·cases aw
 have iR:(bL n r.key r.val).2.2=true\/n.outs=[]:=by
  cases aL:(bL n r.key r.val).2.2 with
  | true=>exact .inl rfl
  | false=>
   right;rw[aL]at ai;have cZ:n.kind=8:=by simpa using ai
   have nk:=wJ ag aR;unfold av at nk;rw[cZ]at nk;simp only[b0,gD,OA,rl,mG]at nk;exact List.length_eq_zero_iff.1 (by omega)
 dsimp only;rcases iR with iR | iR
 ·rw[bb (show (bL n (cellOf r).key (cellOf r).val).2.2=true from iR)];split at aw
  ·split at aw
   ·exact ad _ cl aw
   cases aw
  exact ad _ rfl aw
 have aL:∀s k v,fu n s k v=[]:=fun s k v=>by simp[fu,iR]
 simp only[aL,ite_self]at aw;cases aw
theorem abA{cs:List Cell}(ag:cz g=true)(cb:c8 r=true)(aR:dd g r.op=some n)(hp:(bZ n.kind cs (cellOf r)).2=true)(ai:dn g r=false):∀y∈gO g (cellOf r),∃q∈(cO g cs r).2.1,cellOf q=y:=by
 intro y a7;have pu:dd g (cellOf r).op=some n:=aR;unfold gO at a7;rw[pu]at a7;dsimp only at a7;split at a7
 case isFalse=>cases a7
 rename_i iR;have PZ:(bL n r.key r.val).2.2=true:=iR;obtain⟨o,aM,rfl⟩:=eC.1 a7;rw[MH ag cb aR,aZ (by rw[PZ];simp),aZ (by rw[hp];decide)];split
 ·rename_i bQ;have x7:(dm r.bl).2=true:=by
   unfold dn at ai;rw[aR]at ai;dsimp only at ai;unfold hK at ai;rw[ag,cb,bQ]at ai;simp only[Bool.and_self,OA,rl,Bool.and_eq_false_imp,cF,sW]at ai;exact ai (List.length_pos_of_mem aM)
  rw[bb x7];refine⟨⟨o,(dm r.bl).1,(bL n r.key r.val).1,(bL n r.key r.val).2.1⟩,eC.2 ⟨o,aM,rfl⟩,?_⟩;have cl:(dm r.bl).1.aV=r.bl.aV:=by unfold dm;split<;>rfl
  unfold cellOf;rw[cl]
 exact⟨⟨o,r.bl,(bL n r.key r.val).1,(bL n r.key r.val).2.1⟩,eC.2 ⟨o,aM,rfl⟩,rfl⟩
theorem abB{cs:List Cell}(ag:cz g=true)(cb:c8 r=true)(aR:dd g r.op=some n):
  ((cO g cs r).1=cs/\((n.kind=5\/n.kind=6\/n.kind=8)->qJ n.kind cs (cellOf r)))\/
  ((n.kind=5\/n.kind=6\/n.kind=8)/\(bZ n.kind cs (cellOf r)).2=true/\(∀z,z∈(cO g cs r).1<->z=cellOf r\/(z∈cs/\(n.kind≠6->ci (cellOf r) z=false)))/\∀z∈cs,n.kind≠6->ci (cellOf r) z=true->(cellOf r).val<=z.val):=by
 have e:=aak (cs:=cs) ag cb aR;by_cases aT:n.kind=5\/n.kind=6\/n.kind=8
 ·cases ar:(bZ n.kind cs (cellOf r)).2 with
  | false=>exact .inl ⟨by rw[e,aaj ar],fun _=>(FB aT _ _).1 ar⟩
  | true=>
   refine .inr ⟨aT,rfl,fun z=>by rw[e];exact ME aT ar,fun z aL bt ad=>?_⟩;refine Classical.byContradiction fun a8=>?_
   have:qJ n.kind cs (cellOf r):=by
    unfold qJ;rw[aZ bt];exact⟨z,aL,ad,by omega⟩
   rw[(FB aT _ _).2 this]at ar;cases ar
 exact .inl ⟨by rw[e,FC (by omega) (by omega) (by omega)],fun q=>absurd q aT⟩
section
variable {g : bz} {F ins : List Cell} {e : Int} {H : Cell -> Prop} {hS km : aQ -> Prop} {In GU : Cell -> Prop} {mem qC : Nat -> List Cell} {kL : Int -> Nat} {o8 uZ : Prop}
theorem o0.work(h:o0 g F ins e H hS In mem kL o8)(ag:cz g=true)(xT:∀x∈F,∀y∈gO g x,eX (fun a=>a∈F) y)(xU:∀x∈F,c9 x.key x.val=true){r:aQ}{i:Nat}(ar:lD g r=false)(iD:r.bl.aV=e)(hp:hS r)(aM:kL r.key=i)
  (Bp:∀q,hS q->km q\/q=r) (Pg:∀q∈(cO g (mem i) r).2.1,km q) (rM:∀q,km q->hS q\/q∈(cO g (mem i) r).2.1)
  (j2:qC i=(cO g (mem i) r).1) (BU:∀j,j≠i->qC j=mem j) (iA:o8->uZ) (hZ:dn g r=true->uZ):
  o0 g F ins e (fun x=>H x\/x=cellOf r) km In qC kL uZ:=by
 obtain⟨cb,n,aR⟩:=LV ar;have x5:oo g r.op=n.kind:=Rd aR;have Bm:jE e H hS (cellOf r):=.inr ⟨r,hp,iD,rfl⟩;have up:∀x,jE e H hS x->jE e (fun x=>H x\/x=cellOf r) km x:=by
  rintro x (ae | ⟨q,aw,kG,rfl⟩)
  ·exact .inl (.inl ae)
  rcases Bp q aw with aw | rfl
  ·exact .inr ⟨q,aw,kG,rfl⟩
  exact .inl (.inr rfl)
 have down:∀x,jE e (fun x=>H x\/x=cellOf r) km x->jE e H hS x\/x∈gO g (cellOf r):=by
  rintro x ((ae | rfl) | ⟨q,aw,kG,rfl⟩)
  ·exact .inl (.inl ae)
  ·exact .inl Bm
  rcases rM q aw with aw | aw
  ·exact .inl (.inr ⟨q,aw,kG,rfl⟩)
  exact .inr (abz ag ar q aw)
 have dc:=h.fit _ Bm;have xC:=abB (cs:=mem i) ag cb aR;have afC:(cellOf r).aV=e:=iD;refine⟨fun x ae=>(h.CO x ae).imp id fun q=>q.mono fun a aC=>.self (up a aC),fun x ae=>?_,fun x ae=>?_,fun e4 x ae=>?_,fun j z aL l8=>?_,fun x ae cZ=>?_,fun j z aL rk pE l8 cZ ad=>?_⟩
 ·rcases down x ae with ae | ae
  ·exact h.below x ae
  obtain⟨f,bn,cf,bM⟩:=h.below _ Bm;obtain⟨w,hw,w1,ke⟩:=FO ag dc.1.2.1 (xU f bn) cf bM x ae;exact (xT f bn w hw).less w1 ke
 ·rcases down x ae with ae | ae
  ·exact h.fit x ae
  refine⟨EX ag dc.1 x ae,?_⟩;unfold gO at ae;rw[show dd g (cellOf r).op=some n from aR]at ae;dsimp only at ae;split at ae
  ·obtain⟨o,_,rfl⟩:=eC.1 ae;exact iD
  cases ae
 ·have Py:¬o8:=fun q=>e4 (iA q)
  have IC:∀x,H x->∃a,(H a\/a=cellOf r)/\ci x a=true/\a.val<=x.val/\∀y∈gO g a,eX (jE e (fun x=>H x\/x=cellOf r) km) y:=fun x ae=>by
   obtain⟨a,cf,bM,fy,oj⟩:=h.close Py x ae;exact⟨a,.inl cf,bM,fy,fun y a7=>(oj y a7).mono fun b ah=>.self (up b ah)⟩
  rcases ae with ae | rfl
  ·exact IC x ae
  have blocked:(n.kind=5\/n.kind=6\/n.kind=8)->qJ n.kind (mem i) (cellOf r)->∃a,(H a\/a=cellOf r)/\ci (cellOf r) a=true/\a.val<=(cellOf r).val/\∀y∈gO g a,eX (jE e (fun x=>H x\/x=cellOf r) km) y:=fun aT ah=>by
   have:∃a∈mem i,ci (cellOf r) a=true/\a.val<=(cellOf r).val:=by
    unfold qJ at ah;split at ah
    ·exact⟨cellOf r,ah,zM _,Int.le_refl _⟩
    exact ah
   obtain⟨a,aC,cf,bM⟩:=this;have Pl:a.aV=e:=(jQ.1 cf).2.1.trans iD;obtain⟨b,fU,fa,o5,rD⟩:=IC a (h.r3 i a aC Pl).1;exact⟨b,fU,q8 cf fa,uO o5 bM,rD⟩
  have pass:(bZ n.kind (mem i) (cellOf r)).2=true->∃a,(H a\/a=cellOf r)/\ci (cellOf r) a=true/\a.val<=(cellOf r).val/\∀y∈gO g a,eX (jE e (fun x=>H x\/x=cellOf r) km) y:=fun QB=>by
   have lg:dn g r=false:=by
    cases pk:dn g r with
    | false=>rfl
    | true=>exact absurd (hZ pk) e4
   refine⟨cellOf r,.inr rfl,zM _,Int.le_refl _,fun y a7=>?_⟩;obtain⟨q,aw,rfl⟩:=abA ag cb aR QB lg y a7;exact .self (.inr ⟨q,Pg q aw,(E2 _ _ _ q aw).trans iD,rfl⟩)
  cases x':(bZ n.kind (mem i) (cellOf r)).2 with
  | true=>exact pass x'
  | false=>
   by_cases aT:n.kind=5\/n.kind=6\/n.kind=8
   ·exact blocked aT ((FB aT _ _).1 x')
   rw[FC (by omega) (by omega) (by omega)]at x';cases x'
 ·by_cases aU:j=i
  ·subst aU;rw[j2]at aL;rcases xC with⟨ib,_⟩ | ⟨_,_,ib,_⟩
   ·rw[ib]at aL;exact (h.r3 j z aL l8).imp .inl id
   rcases (ib z).1 aL with rfl | ⟨aL,_⟩
   ·exact⟨.inr rfl,aM⟩
   exact (h.r3 j z aL l8).imp .inl id
  rw[BU j aU]at aL;exact (h.r3 j z aL l8).imp .inl id
 ·have Ra:∀x,(∃z∈mem (kL x.key),ci x z=true/\z.val<=x.val)->∃z∈qC (kL x.key),ci x z=true/\z.val<=x.val:=by
   rintro x ⟨z,aL,cf,bM⟩;by_cases aU:kL x.key=i
   ·rw[aU]at aL ⊢;rw[j2];rcases xC with⟨ib,_⟩ | ⟨aT,_,ib,u1⟩
    ·rw[ib];exact⟨z,aL,cf,bM⟩
    by_cases ya:n.kind≠6/\ci (cellOf r) z=true
    ·exact⟨cellOf r,(ib _).2 (.inl rfl),q8 cf (FN ya.2),uO (u1 z aL ya.1 ya.2) bM⟩
    exact⟨z,(ib z).2 (.inr ⟨aL,fun bt=>by
     cases vJ:ci (cellOf r) z with
     | false=>rfl
     | true=>exact absurd ⟨bt,vJ⟩ ya⟩),cf,bM⟩
   rw[BU _ aU];exact⟨z,aL,cf,bM⟩
  rcases ae with ae | rfl
  ·exact Ra x (h.outs x ae cZ)
  have Qa:n.kind=8:=x5.symm.trans cZ;change ∃z∈qC (kL r.key),_;rcases xC with⟨ib,u1⟩ | ⟨_,_,ib,_⟩
  ·have ah:=u1 (.inr (.inr Qa));unfold qJ at ah;rw[aZ (by omega)]at ah;rw[aM,j2,ib];exact ah
  rw[aM,j2];exact⟨cellOf r,(ib _).2 (.inl rfl),zM _,Int.le_refl _⟩
 by_cases aU:j=i
 ·subst aU;rw[j2]at aL pE;rcases xC with⟨ib,_⟩ | ⟨_,_,ib,_⟩
  ·rw[ib]at aL pE;exact h.sU j z aL rk pE l8 cZ ad
  have gd:∀w:Cell,w.op=r.op->oo g w.op=8->n.kind≠6:=fun w hw QY=>by rw[hw,x5]at QY;omega
  rcases (ib z).1 aL with rfl | ⟨aL,ov⟩
  ·rcases (ib rk).1 pE with rfl | ⟨_,pH⟩
   ·rfl
   rw[pH (gd _ rfl cZ)]at ad;cases ad
  rcases (ib rk).1 pE with rfl | ⟨pE,_⟩
  ·have cB:=FN ad;rw[ov (gd z (jQ.1 cB).1 cZ)]at cB;cases cB
  exact h.sU j z aL rk pE l8 cZ ad
 rw[BU j aU]at aL pE;exact h.sU j z aL rk pE l8 cZ ad
theorem o0.move(h:o0 g F ins e H hS In mem kL o8)(hm:∀j,qC j=mem j)(ai:o8->uZ)(Bp:∀q,hS q->km q)(rM:∀q,km q->q.bl.aV=e->hS q\/(eX (fun a=>a∈F) (cellOf q)/\Fits g (cellOf q)))
  (Bn:∀x,In x->GU x\/∃q,km q/\q.bl.aV=e/\cellOf q=x):o0 g F ins e H km GU qC kL uZ:=by
 have BV:qC=mem:=funext hm;subst BV;have up:∀x,jE e H hS x->jE e H km x:=by
  rintro x (ae | ⟨q,aw,kG,rfl⟩)
  ·exact .inl ae
  exact .inr ⟨q,Bp q aw,kG,rfl⟩
 refine⟨fun x ae=>?_,fun x ae=>?_,fun x ae=>?_,fun e4 x ae=>?_,h.r3,h.outs,h.sU⟩
 ·rcases h.CO x ae with k | k
  ·rcases Bn x k with k | k
   ·exact .inl k
   exact .inr (.self (.inr k))
  exact .inr (k.mono fun a aC=>.self (up a aC))
 ·rcases ae with ae | ⟨q,aw,kG,rfl⟩
  ·exact h.below x (.inl ae)
  rcases rM q aw kG with aw | aw
  ·exact h.below _ (.inr ⟨q,aw,kG,rfl⟩)
  exact aw.1
 ·rcases ae with ae | ⟨q,aw,kG,rfl⟩
  ·exact h.fit x (.inl ae)
  rcases rM q aw kG with aw | aw
  ·exact h.fit _ (.inr ⟨q,aw,kG,rfl⟩)
  exact⟨aw.2,kG⟩
 obtain⟨a,cf,bM,fy,oj⟩:=h.close (fun q=>e4 (ai q)) x ae;exact⟨a,cf,bM,fy,fun y a7=>(oj y a7).mono fun b ah=>.self (up b ah)⟩
theorem o0.final(h:o0 g F ins e H hS In mem kL o8)(e4:¬o8)(Pf:∀q,hS q->q.bl.aV≠e)(Bn:∀x,¬In x)
  (Pd:∀K:Cell->Prop,(∀x,K x->c9 x.key x.val=true)->(∀x,K x->∀y∈gO g x,eX K y)->(∀x∈ins,eX K x)->∀x∈F,eX K x) (Pe:∀a∈F,∀b∈F,ci a b=true->a=b) (ag:cz g=true):
  (∀i,∀z∈mem i,z.aV=e->oo g z.op=8->z∈F)/\∀f∈F,oo g f.op=8->f∈mem (kL f.key):=by
 have only:∀x,jE e H hS x->H x:=by
  rintro x (ae | ⟨q,aw,kG,_⟩)
  ·exact ae
  exact absurd kG (Pf q aw)
 have fits:∀x,H x->c9 x.key x.val=true:=fun x ae=>(h.fit x (.inl ae)).1.2.1
 have closed:∀x,H x->∀y∈gO g x,eX H y:=fun x ae y a7=>by
  obtain⟨a,cf,bM,fy,oj⟩:=h.close e4 x ae;obtain⟨w,hw,w1,ke⟩:=FO ag (fits x ae) (fits a cf) bM fy y a7;exact ((oj w hw).mono fun b ah=>.self (only b ah)).less w1 ke
 have least:=Pd H fits closed fun x ae=>((h.CO x ae).resolve_left (Bn x)).mono fun b ah=>.self (only b ah)
 have Nr:∀{a b:Cell},ci a b=true->a.val=b.val->a=b:=fun {a b} ad a8=>by
  obtain⟨s1,s2,uC⟩:=jQ.1 ad;cases a;cases b;simp only at s1 s2 uC a8;rw[s1,s2,uC,a8]
 constructor
 ·intro i z aL l8 cZ;obtain⟨Bl,hi⟩:=h.r3 i z aL l8;obtain⟨f,bn,cf,bM⟩:=h.below z (.inl Bl);obtain⟨x,ae,jR,iu⟩:=least f bn;have Ig:=q8 cf jR;obtain⟨s1,s2,uC⟩:=jQ.1 Ig;obtain⟨z2,l7,w1,ke⟩:=h.outs x ae (by rw[s1];exact cZ);rw[uC,hi]at l7;have:=h.sU i z aL z2 l7 l8 cZ (q8 Ig w1);subst this;have vT:z=f:=Nr cf (by omega);rw[vT];exact bn
 intro f bn cZ;obtain⟨x,ae,jR,iu⟩:=least f bn;obtain⟨s1,s2,uC⟩:=jQ.1 jR;obtain⟨z,aL,w1,ke⟩:=h.outs x ae (by rw[s1];exact cZ);rw[uC]at aL;have BJ:=q8 jR w1;have l8:z.aV=e:=(jQ.1 w1).2.1.trans (h.fit x (.inl ae)).2;obtain⟨Bl,_⟩:=h.r3 _ z aL l8;obtain⟨f2,BG,cf,bM⟩:=h.below z (.inl Bl);have:=Pe f bn f2 BG (q8 BJ cf);subst this;have vT:f=z:=Nr BJ (by omega);rw[vT]at aL ⊢;exact aL
end
