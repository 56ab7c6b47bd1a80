import Derived.Test.YtdchjefneblpgaaGreatP89
set_option linter.unusedVariables false
set_option linter.unusedSimpArgs false
namespace Go.Proofs.YtdchjefneblpgaaGreat
open Go.Sx Go.RowKit Go.Proofs.Tryz
def cu(e:Int)(c:aU):Nat:=if hr e c=true then 0 else 1
def rR(c:aU):Prop:=c.news.length+2*(cu 0 c+cu 1 c+cu 2 c+cu 3 c)<=8
variable{c d:aU}{i e:Int}{x:aL}
theorem amz{y:aL}(aa:b3 c i=some x)(hw:d.aq=c.aq.set i.toNat y)(h:ew x e=true->ew y e=true):hr e c=true->hr e d=true:=by
 intro af;obtain⟨_,_,jw⟩:=eK aa;unfold hr b3 at af ⊢;rw[aZ (by decide),hw];rw[aZ (by decide)]at af;by_cases hi:i.toNat=0
 ·rw[hi]at jw ⊢;rw[show (0:Int).toNat=0 from rfl]at af ⊢;rw[py jw];rw[jw]at af;exact h af
 rw[jy,a6 (show ¬i.toNat=(0:Int).toNat from hi)];exact af
theorem Cl{d:aU}{y:aL}(aa:b3 c i=some x)(hw:d.aq=c.aq.set i.toNat y)(h:ew x e=true->ew y e=true):cu e d<=cu e c:=by
 unfold cu;by_cases af:hr e c=true
 ·rw[aZ af,aZ (amz aa hw h af)];exact dN _
 ·rw[a6 af];split<;>omega
theorem vL{y:aL}(h:rR c)(aa:b3 c i=some x)(hw:d.aq=c.aq.set i.toNat y)(aB:∀e,ew x e=true->ew y e=true)(aK:d.news.length<=c.news.length):rR d:=by
 have fv:=Cl (d:=d) aa hw (aB 0);have gw:=Cl (d:=d) aa hw (aB 1);have jU:=Cl (d:=d) aa hw (aB 2);have sP:=Cl (d:=d) aa hw (aB 3);unfold rR at h ⊢;omega
theorem rR.step{p:b9}(h:rR c)(aj:c.aq.length<=3)(st:Step c p d):rR d:=by
 cases st with
 | work x r q hk aa ai aA=>exact vL h aa rfl (fun _ k=>k) (dN _)
 | input x r t hk aa ai aA hi=>exact vL h aa rfl (fun _ k=>k) (dN _)
 | eW x r t hk aa ai aN=>exact vL h aa rfl (fun _ k=>k) (dN _)
 | send x r t l hk aa ai aN lW hsend=>exact vL h aa rfl (fun _ k=>k) (dN _)
 | take l x hk dD lW aa bq=>exact vL h aa rfl (fun _ k=>k) (dN _)
 | qC l hk dD lW af=>exact h
 | token t x cm hk j8 bl aB bq aa qV=>
  rcases qh c p.a t x with⟨_,k⟩ | ⟨_,_,⟨_,k⟩ | ⟨_,_,k⟩ | ⟨_,sb,_,k⟩ | ⟨_,_,_,k⟩⟩
  ·rw[k];exact h
  ·rw[k];exact vL h aa rfl (fun _ k=>k) (dN _)
  ·rw[k];exact vL h aa rfl (fun _ k=>k) (dN _)
  ·rw[k];have aW:t.place=0:=by have:=(eK aa).1;omega
   rw[aW,bl]at aa;obtain rfl:cm=x:=eQ aa;simp only[ap,b']at j8;generalize yC:hg (setW (cM c p.a ⟨false,t.place,t.sum,t.bV,t.ca⟩) 0 (told cm p.a (t.ca||cm.bm.getD p.a.toNat false))) (c.news++fU (c.aq.length-1) p.a (t.ca||cm.bm.getD p.a.toNat false))=D;have hw:D.aq=c.aq.set (0:Int).toNat (told cm p.a (t.ca||cm.bm.getD p.a.toNat false)):=by rw[<-yC];rfl
   have wH:D.news.length<=c.news.length+2:=by
    rw[<-yC];simp only[hg,k7,fU,bk,vZ];omega
   have mono:∀e,cu e D<=cu e c:=fun e=>Cl bl hw fun k=>by rw[vH,k,Bool.true_or]
   have own:cu p.a D=0/\cu p.a c=1:=by
    have YB:b3 D 0=some (told cm p.a (t.ca||cm.bm.getD p.a.toNat false)):=by
     unfold b3;rw[aZ (by decide),hw];exact py (eK bl).2.2
    unfold cu;rw[pB YB,pB bl,vH,aB];simp
   have fv:=mono 0;have gw:=mono 1;have jU:=mono 2;have sP:=mono 3;have uO:p.a=0\/p.a=1\/p.a=2\/p.a=3:=by omega
   unfold rR at h ⊢;rcases uO with h1 | h1 | h1 | h1<;>(rw[h1]at own;omega)
  rw[k];exact h
 | qZ k n x hk aK aB aa=>
  refine vL (y:=ea x n) h aa rfl (fun e q=>by rw[Gg,q,Bool.true_or]) ?_;exact UM _ _
structure Live (P:kI) (S:Int) (c:aU):Prop where
 run:qw P S c
 fin:∀e:Int,0<=e/\e<=3->Fin e c
 news:rR c
 small:c.aq.length<=3
variable{P:kI}{S:Int}
theorem Live.step(h:Live P S c)(hz:S<200000)(p:b9):Live P (S+1) (cY c p).1:=by
 have h1:=h.run.step hz p;have aj:=(L9 c p).x4;rcases xL c p with⟨_,U⟩ | ⟨_,_,st⟩
 ·rw[U]at h1 ⊢;exact⟨h1,h.fin,h.news,h.small⟩
 exact⟨h1,fun e he=>(h.fin e he).step (h.run.all.inv e he) he h.run.all.ok st,h.news.step h.small st,by rw[aj];exact h.small⟩
theorem Live.runs:∀(l:List b9) {S:Int} {c:aU},Live P S c->S+l.length<=200000->Live P (S+l.length) (cS c l).1
 | [],S,c,h,_=>by simpa[cS]using h
 | p::l,S,c,h,hz=>by
  simp only[dJ]at hz ⊢;have:=Live.runs l (h.step (by omega) p) (by omega);simp only[cS];rw[show S+((l.length+1:Nat):Int)=S+1+l.length by omega];exact this
theorem Live.mono{T:Int}(h:Live P S c)(gO:S<=T):Live P T c:=⟨⟨h.run.all.mono gO,h.run.of⟩,h.fin,h.news,h.small⟩
variable{g:b0}{xs:List aE}
theorem Live.new(ar:ma g)(aa:∀r∈xs,Input r)(aj:xs.length<=5):∃P:kI,P.xs=xs/\Live P 0 (fu g xs):=by
 have aK:=M9 ar (by omega) aa;obtain⟨⟨k,a,b,c,v,hk,ad,ao,_,bz,je⟩,hw,_⟩:=ar;have Bg:∀x∈(fu g xs).aq,∃w:Nat,x=nS (own g xs w):=fun x aa=>by
  obtain⟨i,hi⟩:=List.getElem?_of_mem aa;exact⟨i,(Gm hi).1⟩
 have hlen:(fu g xs).aq.length=g.aq.toNat:=Cz g xs _;have ie:∀e,hr e (fu g xs)=false:=fun e=>by
  obtain⟨cm,lF⟩:∃cm,b3 (fu g xs) 0=some cm:=oF (by decide) (by rw[hlen];omega);rw[pB lF];obtain⟨w,rfl⟩:=Bg cm (cG (x3 lF));rfl
 refine⟨⟨k,a,b,c,v,xs⟩,rfl,⟨km.new aK,hk,ad,ao,bz,je,aa,⟨fun x ml r az=>?_,fun l aj r az=>?_,fun x ml r az=>?_⟩⟩,fun e he=>⟨fun _=>⟨?_,rfl⟩,fun bg=>?_,⟨false,fun x ml d aB=>?_,fun n aK=>?_,fun bg=>?_⟩⟩,?_,by rw[hlen];omega⟩
 ·obtain⟨w,rfl⟩:=Bg x ml;simp[nS]at az
 ·rw[List.eq_of_mem_replicate aj]at az;simp[l5]at az
 ·obtain⟨w,rfl⟩:=Bg x ml;exact (Gl az).1
 ·unfold nV;rw[ff];intro x ml;obtain⟨w,rfl⟩:=Bg x ml;simp[ew,nS]
 ·rw[ie]at bg;cases bg
 ·obtain⟨w,rfl⟩:=Bg x ml;simp[nS]at aB
 ·simp[fu]at aK
 ·rw[ie]at bg;cases bg
 unfold rR cu;rw[ie,ie,ie,ie];simp[fu]
theorem Ga{e:Int}(h:km S c)(aj:c.aq.length<=3):jt e c<=11:=by
 unfold jt;split
 ·omega
 cases bq:hE c e with
 | none=>exact Nat.zero_le _
 | some t=>
  obtain⟨⟨h1,U⟩,_⟩:=sE.1 (zh h.ok bq);have o8:=(e7.1 h.ok).2.1;dsimp only;unfold qm;split
  ·split
   ·omega
   ·split<;>omega
  ·split<;>omega
theorem VX(h:Live P S c):sJ c<=140:=by
 have t0:=Ga (e:=0) h.run.all h.small;have t1:=Ga (e:=1) h.run.all h.small;have t2:=Ga (e:=2) h.run.all h.small;have t3:=Ga (e:=3) h.run.all h.small;have aK:=h.news;unfold rR at aK;unfold sJ;omega
theorem VY(b:Bool)(l:List Bool):mI (b::l)=(if b=true then 1 else 0)+mI l:=by
 cases b<;>simp[mI]<;>omega
theorem Gb:∀(l:List b9) {S:Int} {c:aU},Live P S c->S+l.length<=200000->Still c->Still (cS c l).1/\sJ (cS c l).1+mI (cS c l).2<=sJ c
 | [],S,c,_,_,ai=>⟨ai,dN _⟩
 | p::l,S,c,h,hz,ai=>by
  simp only[dJ]at hz;simp only[cS,VY];rcases xL c p with⟨cy,bw⟩ | ⟨_,cy,st⟩
  ·rw[bw,cy,a6 (by decide),dq];exact Gb l (h.mono (T:=S+1) (by omega)) (by omega) ai
  obtain⟨s1,s2⟩:=amy h.run.all ai h.small st;obtain⟨i1,i2⟩:=Gb l (h.step (by omega) p) (by omega) s1;rw[cy,aZ rfl];exact⟨i1,by omega⟩
theorem VZ:∀(l:List b9) (c:aU),mI (cS c l).2=0->(cS c l).1=c/\∀p∈l,(cY c p).2=false
 | [],c,_=>⟨rfl,fun p hp=>by cases hp⟩
 | p::l,c,h=>by
  simp only[cS,VY]at h ⊢;cases ao:(cY c p).2 with
  | true=>rw[ao,aZ rfl]at h;omega
  | false=>
   rw[agA ao]at h ⊢;obtain⟨h1,U⟩:=VZ l c (by omega);refine⟨h1,fun q aA=>?_⟩;rcases et.1 aA with rfl | aA
   ·exact ao
   exact U q aA
theorem V0{P:kI}:∀(m:Nat) {S:Int} {c:aU} (k M:Nat),Live P S c->S+44*m<=200000->M<m->((Still c/\sJ c<=M)\/fC P c+141<=M)->
  ∃(d:aU) (j:Nat) (T:Int),eL m c k=(d,k+j)/\j<=M+1/\Live P T d/\T<=200000/\d.ay=c.ay/\∀p∈fD d,(cY d p).2=false
 | 0,S,c,k,M,_,_,YE,_=>by omega
 | m+1,S,c,k,M,h,hz,YE,af=>by
  obtain⟨_,D6⟩:=MO (ii (e7.1 h.run.all.ok).1);unfold eL;by_cases bl:(hb c).2=0
  ·rw[aZ bl];obtain⟨hD,ih⟩:=VZ (fD c) c bl;exact⟨c,1,S,by rw[show (hb c).1=c from hD],by omega,h,by omega,rfl,ih⟩
  rw[a6 bl];have aj:Live P (S+44) (hb c).1:=(h.runs (fD c) (by omega)).mono (by omega);have uQ:=(Ci c).ay;have next:(Still (hb c).1/\sJ (hb c).1<=M-1)\/fC P (hb c).1+141<=M-1:=by
   by_cases ai:Still c
   ·obtain⟨s1,s2⟩:=Gb (fD c) h (by omega) ai;have aB:0<mI (cS c (fD c)).2:=Nat.pos_of_ne_zero bl;rcases af with⟨_,af⟩ | af
    ·exact .inl ⟨s1,by unfold hb;dsimp only;omega⟩
    have:=VX h;exact .inl ⟨s1,by unfold hb;dsimp only;omega⟩
   rcases af with⟨af,_⟩ | af
   ·exact absurd af ai
   have bu:=amu h.run (by omega) ai;by_cases lj:Still (hb c).1
   ·have:=VX aj;exact .inl ⟨lj,by omega⟩
   exact .inr (by omega)
  have awz:1<=M:=by
   rcases af with⟨ai,af⟩ | af
   ·obtain⟨_,s2⟩:=Gb (fD c) h (by omega) ai;have aB:0<mI (cS c (fD c)).2:=Nat.pos_of_ne_zero bl;omega
   omega
  obtain⟨d,j,T,e1,e2,cJ,e4,ko,oV⟩:=V0 m (k+1) (M-1) aj (by omega) (by omega) next;exact⟨d,j+1,T,by rw[e1];congr 1;omega,by omega,cJ,e4,ko.trans uQ,oV⟩
structure yg (c:aU):Prop where
 still:Still c
 done:∀e:Int,0<=e/\e<=3->∀x∈c.aq,ew x e=true
 news:c.news=[]
theorem amA(he:0<=e/\e<=3):(⟨6,e,0⟩:b9)∈fD c:=by
 have uO:e=0\/e=1\/e=2\/e=3:=by omega
 unfold fD;refine io _ ?_;rcases uO with rfl | rfl | rfl | rfl<;>decide
theorem Live.ended{T:Int}(h:Live P T c)(gO:T<=200000)(ht:∀p∈fD c,(cY c p).2=false):yg c:=by
 have bD:=h.run.all.ok;obtain⟨ar,o8,_⟩:=e7.1 bD;have aK:=ii ar;have ai:Still c:=VS bD fun p hp _=>⟨c,T,bD,h.run.all.s3,gO,.rfl,ht p hp⟩
 have jF:c.news=[]:=by
  cases je:c.news with
  | nil=>rfl
  | cons n ns=>
   exfalso;have ao:=L6 bD (k:=0) (n:=n) (by rw[je];rfl);simp only[lN,ap,fR,jW,b']at ao;obtain⟨w,hw⟩:∃w:Nat,n.dest=w:=⟨n.dest.toNat,by omega⟩
   obtain⟨x,aa⟩:∃x,b3 c (w:Int)=some x:=oF (by omega) (by omega);have hp:=ht ⟨7,w,0⟩ (by
    unfold fD;rw[MN aK];exact hl _ (hl _ (VR (w:=w) (by omega) (by simp[jO]))))
   have bg:c.news.findIdx? (fun m=>m.dest==(w:Int))=some 0:=by
    rw[je,List.findIdx?_cons,hw];simp
   have bN:cY c ⟨7,(w:Int),0⟩=jN c w:=rfl;rw[bN]at hp;unfold jN at hp;rw[bg]at hp;dsimp only at hp;rw[aZ bD,je]at hp;simp only[kE,aa]at hp;cases hp
 refine⟨ai,fun e he x aa=>?_,jF⟩;obtain⟨cm,lF⟩:∃cm,b3 c 0=some cm:=oF (by decide) (by omega);obtain⟨t,bq⟩:=Ux bD (e:=e) (by simp only[ap,b'];exact he);obtain⟨⟨iz,tK⟩,_⟩:=sE.1 (zh bD bq);obtain⟨y,bn⟩:∃y,b3 c t.place=some y:=oF iz (by omega);have ie:ew cm e=true:=by
  refine Classical.byContradiction fun aB=>?_
  have aB:ew cm e=false:=by simpa using aB
  have hp:=ht ⟨6,e,0⟩ (amA he);have bb:cY c ⟨6,e,0⟩=dx c e t y:=by
   change ij c e=_;unfold ij;rw[aZ (by rw[bD];simp only[ap,oM,b'];exact he),lF,bq];dsimp only;rw[aB,a6 (by decide),bn]
  rw[bb]at hp;have Z2:=(ai.quiet e).1 y (cG (eK bn).2.2);unfold dx at hp;rw[aZ Z2]at hp;cases ar:t.going with
  | false=>rw[ar]at hp;cases hp
  | true=>
   rw[ar,a6 (by decide)]at hp;split at hp
   ·split at hp
    ·cases hp
    rename_i Zu;refine Zu ?_;have eU:=h.run.all.s3.vQ t (cG (xH bq).2.2) ar;have fH:=h.run.all.s3.at bn e.toNat;simp only[ap,b'];omega
   ·split at hp<;>cases hp
 obtain⟨i,hi⟩:=List.getElem?_of_mem aa;by_cases lf:i=0
 ·subst lf;rw[x3 lF]at hi;cases hi;exact ie
 rcases (h.fin e he).reach (by rw[pB lF];exact ie) i x (by omega) hi with r | ⟨n,r,_⟩
 ·exact r
 rw[jF]at r;cases r
theorem amB(ar:ma g)(aa:∀r∈xs,Input r)(aj:xs.length<=5)(uJ:P.xs=xs)(af:Live P S c)(hz:S<=60000)(awV:fC P c<=xs.length*554):
  ∃(d:aU) (j:Nat) (T:Int),m' c 3000=(d,j)/\j<3000/\Live P T d/\T<=200000/\d.ay=c.ay/\yg d/\∀p∈fD d,(cY d p).2=false:=by
 have ao:(gr 3000 0 3000).toNat=3000:=by decide
 obtain⟨d,j,T,e1,e2,cJ,e4,ko,oV⟩:=V0 (P:=P) 3000 (c:=c) 0 2911 af (by omega) (by omega) (.inr (by omega));refine⟨d,j,T,?_,by omega,cJ,e4,ko,cJ.ended e4 oV,oV⟩;unfold m';rw[ao,e1,dq]
theorem MQ:∀(l:List b9) {S:Int} {c:aU},qw P S c->S+l.length<=200000->fC P (cS c l).1<=fC P c
 | [],_,c,_,_=>dN _
 | p::l,S,c,h,hz=>by
  simp only[dJ]at hz;have dk:=MQ l (h.step (by omega) p) (by omega);simp only[cS];rcases xL c p with⟨_,bw⟩ | ⟨_,_,st⟩
  ·rw[bw]at dk ⊢;exact dk
  have:=VG h.of h.all.owns h.all.ok st;omega
structure Grown (g:b0) (xs:List aE) (c:aU):Prop where
 drawn:ma g
 input:∀r∈xs,Input r
 few:xs.length<=5
 live:∃(P:kI) (S:Int),P.xs=xs/\Live P S c/\S<=60000/\fC P c<=xs.length*554
 ay:c.ay=g
theorem Grown.new(ar:ma g)(aa:∀r∈xs,Input r)(aj:xs.length<=5):Grown g xs (fu g xs):=by
 obtain⟨P,uJ,h⟩:=Live.new ar aa aj;subst uJ;exact⟨ar,aa,aj,⟨P,0,rfl,h,by omega,VI (M9 ar (by omega) aa) aa⟩,rfl⟩
end Go.Proofs.YtdchjefneblpgaaGreat
namespace Go.Proofs.YtdchjefneblpgaaGreat
open Go.Sx Go.RowKit Go.Proofs.Tryz
def ud(x:aL)(e:Int):cD×Bool:=
 match x.b1.find? (fun d=>d.a7==e) with
 | some d=>(d,true)
 | none=>(⟨0,false⟩,false)
theorem V1(x:aL)(e:Int)(aa:x.sz<=8388608):aw 17 [.agg x.e,.one (I e)] [.agg (ud x e).1.e,.one (B (ud x e).2)]:=by
 have aj:x.b1.length<=8388608:=by simp only[aL.sz]at aa;omega
 let st:=fun i:Nat=>xo e i 0 false (x.queue.map aE.e) (x.cp.map aE.e) (x.bZ.map aE.e) (x.cells.map Cell.e) (x.bM.map ba) (x.bV.map cI) (x.bm.map cI) (x.b1.map cD.e)
 have step:∀i,i<x.b1.length->(∀b,x.b1[i]?=some b->(b.a7==e)=false)->gA prog (av f17 0) (st i) .normal (st (i+1)):=by
  intro i hi h;obtain⟨a,ad⟩:=dm hi;exact aps ⟨b4 hi,bH,bL hi,bI cD.e ad,h a ad,du hi aj,ae⟩
 rcases KD (fun d:cD=>d.a7==e) x.b1 with⟨h1,U⟩ | ⟨i,a,h1,U,ax,aF⟩
 ·simp only[ud,h1];have l:=eR (cL 0) x.b1.length st (fun i hi=>step i hi fun b ao=>U b (cG ao)) (apt ⟨ec,ae⟩);exact apv ⟨l,ae⟩
 simp only[ud,ax];have hi:=aX h1;have l:=eR fl i st (fun j aP=>step j (by omega) fun b ao=>aF j b aP ao) (apr ⟨b4 hi,bH,bL hi,bI cD.e h1,U,bH,bL hi,bI cD.e h1,ae⟩);exact apu ⟨l,ae⟩
end Go.Proofs.YtdchjefneblpgaaGreat
namespace Go.Proofs.YtdchjefneblpgaaGreat
open Go.Sx Go.RowKit Go.Proofs.Tryz
variable{P:kI}
theorem V2:∀(m:Nat) {S:Int} {c:aU} (k:Nat),Live P S c->S+44*m<=200000->Live P (S+44*m) (eL m c k).1/\fC P (eL m c k).1<=fC P c
 | 0,S,c,k,h,_=>⟨h.mono (by omega),dN _⟩
 | m+1,S,c,k,h,hz=>by
  obtain⟨_,D6⟩:=MO (ii (e7.1 h.run.all.ok).1);have h1:Live P (S+44) (hb c).1:=(h.runs (fD c) (by omega)).mono (by omega);have tK:fC P (hb c).1<=fC P c:=MQ (fD c) h.run (by omega);unfold eL;split
  ·exact⟨h1.mono (by omega),tK⟩
  obtain⟨U,EE⟩:=V2 m (k+1) h1 (by omega);exact⟨U.mono (by omega),n1 EE tK⟩
variable{c:aU}
theorem Grown.fair{g:b0}{xs:List aE}(h:∃(P:kI) (S:Int),P.xs=xs/\Live P S c/\S<=50000/\fC P c<=xs.length*554)(ar:ma g)(aa:∀r∈xs,Input r)(bg:xs.length<=5)(uQ:c.ay=g)(n:Int)(aK:n<=200):Grown g xs (m' c n).1:=by
 obtain⟨P,S,uJ,h1,U,ax⟩:=h;have ao:(gr n 0 3000).toNat<=200:=by
  unfold gr;split<;>(try split)<;>(try split)<;>omega
 obtain⟨lZ,uZ⟩:=V2 (gr n 0 3000).toNat 0 h1 (by omega);exact⟨ar,aa,bg,⟨P,_,uJ,lZ.mono (T:=60000) (by omega),by omega,n1 uZ ax⟩,(GD _ c 0).ay.trans uQ⟩
variable{e:Int}
theorem amC{x:aL}{b:Bool}(aB:ew x e=true)(ao:∀d∈x.b1,d.a7=e->d.ca=b):ud x e=(⟨e,b⟩,true):=by
 unfold ud;unfold ew at aB;rw[l9]at aB;cases bg:x.b1.find? (fun d=>d.a7==e) with
 | none=>
  rw[List.find?_eq_none]at bg;obtain⟨d,h1,U⟩:=aB;exact absurd U (bg d h1)
 | some d=>
  have h1:=List.mem_of_find?_eq_some bg;have U:d.a7=e:=by simpa using List.find?_some bg
  have ax:=ao d h1 U;obtain⟨awf,mH⟩:=d;simp only at U ax;rw[U,ax]
variable{T:Int}
theorem amD(h:Live P T c)(he:yg c)(aF:0<=e/\e<=3):∃f:cD,(∀x∈c.aq,ud x e=(f,true))/\(f.ca=false->∀x∈c.aq,kn e x=false):=by
 obtain⟨b,eU,fH,mE⟩:=(h.fin e aF).flag;refine⟨⟨e,b⟩,fun x aa=>amC (he.done e aF x aa) (eU x aa),fun bg x aa=>?_⟩;obtain⟨ar,o8,_⟩:=e7.1 h.run.all.ok;have aK:=ii ar;obtain⟨cm,lF⟩:∃cm,b3 c 0=some cm:=oF (by decide) (by omega);exact mE (by rw[pB lF];exact he.done e aF cm (cG (x3 lF))) bg x aa
theorem amE:∀{l:List Int},l.Nodup->(∀x∈l,0<=x/\x<=3)->(∀e:Int,0<=e/\e<=3->e∈l)->l.length=4:=by
 intro l aK h1 U;have hp:l.Perm [0,1,2,3]:=by
  rw[List.perm_ext_iff_of_nodup aK (by decide)];intro a;constructor
  ·intro ad;have:=h1 a ad;have af:a=0\/a=1\/a=2\/a=3:=by omega
   rcases af with rfl | rfl | rfl | rfl<;>decide
  intro ad;simp only[et,qt,or_false]at ad;exact U a (by omega)
 exact hp.length_eq
theorem amF{xs:List cD}(h:anyI (l4 xs) 0 xs=false):(xs.map cD.a7).Nodup/\∀d∈xs,0<=d.a7/\d.a7<=3:=by
 have key:∀i d,xs[i]?=some d->ap d.a7 0 3=true/\∀q∈xs.take i,q.a7≠d.a7:=fun i d aB=>by
  have:=xG h aB;unfold l4 at this;simp only[fR,jW,ff,dp]at this;exact this
 refine⟨?_,fun d aB=>?_⟩
 ·rw[List.nodup_iff_pairwise_ne,List.pairwise_iff_getElem];intro i j hi aP lh;simp only[bk]at hi aP;simp only[List.getElem_map];exact (key j xs[j] (gz aP)).2 xs[i] (List.mem_take_iff_getElem.2 ⟨i,by omega,rfl⟩)
 obtain⟨i,hi⟩:=List.getElem?_of_mem aB;have:=(key i d hi).1;simpa only[ap,b']using this
theorem amG(h:Live P T c)(he:yg c){x:aL}(aa:x∈c.aq):x.b1.length=4:=by
 obtain⟨i,hi⟩:=List.getElem?_of_mem aa;have a':=jr (i:=(i:Int)) h.run.all.ok (x:=x) (by unfold b3;rw[aZ (by omega)];simpa using hi);obtain⟨_,_,_,_,_,_,_,_,_,aB⟩:=ik.1 a';obtain⟨h1,U⟩:=amF aB;have:=amE h1 (fun e hm=>by
  obtain⟨d,aB,rfl⟩:=jZ.1 hm;exact U d aB) (fun e aF=>by
  obtain⟨d,aB,ny⟩:=l9.1 (he.done e aF x aa);exact jZ.2 ⟨d,aB,by simpa using ny⟩)
 rwa[bk]at this
theorem amH(h:Live P T c)(gO:T<=200000)(he:yg c)(aF:0<=e/\e<=3):BE c e=0:=by
 rw[agk h.run.all.ok h.run.all.s3 (by omega) aF,(h.run.all.inv e aF).total,(he.still.quiet e).2];rfl
