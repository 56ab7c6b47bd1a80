import Derived.Test.YtdchjefneblpgaaGreatP50
set_option linter.unusedVariables false
set_option linter.unusedSimpArgs false
namespace Go.Proofs.YtdchjefneblpgaaGreat
open Go.Sx Go.RowKit Go.Proofs.Tryz
theorem amY(c:aU)(l:List b9)(af:c.sz+4*l.length<=8388608):
  c6 prog (av f15 0) (zU (l.map b9.e) 0 [] (c.ay.nodes.map Node.e) c.ay.aq c.ay.cap (c.aq.map aL.e) (c.bK.map bt.e) (c.tokens.map bQ.e) (c.news.map bT.e) (cq c) 0 0) (.exit 0)
   (Nj ((cS c l).2.map cI) ((cS c l).1.ay.nodes.map Node.e) (cS c l).1.ay.aq (cS c l).1.ay.cap ((cS c l).1.aq.map aL.e) ((cS c l).1.bK.map bt.e) ((cS c l).1.tokens.map bQ.e) ((cS c l).1.news.map bT.e) (cq (cS c l).1) 0 0):=by
 have aj:l.length<=8388608:=by omega
 have k:=eR (P:=prog) (c:=(av f15 0)) (cL 0) l.length (fun i:Nat=>zU (l.map b9.e) i ((cS c (l.take i)).2.map cI) ((cS c (l.take i)).1.ay.nodes.map Node.e) (cS c (l.take i)).1.ay.aq (cS c (l.take i)).1.ay.cap ((cS c (l.take i)).1.aq.map aL.e) ((cS c (l.take i)).1.bK.map bt.e) ((cS c (l.take i)).1.tokens.map bQ.e) ((cS c (l.take i)).1.news.map bT.e) (cq (cS c (l.take i)).1) 0 0) (fun i hi=>by
  obtain⟨p,hp⟩:=dm hi;have aK:=Cs (l.take i) c;have ai:=Mb c l i;rw[Ma c hp];dsimp only;rw[Ff];generalize cS c (l.take i)=o at*;exact akq ⟨b4 hi,bH,bL hi,bI b9.e hp,US o.1 p (by omega),by simp[aK];omega,by simp[aK];omega,yt [(cY o.1 p).2],du hi aj,ae⟩) (akr ⟨ec,ae⟩)
 rw[k6]at k;exact k
theorem amZ(c:aU)(l:List b9)(af:c.sz+4*l.length<=8388608)(hw:fF c):aw 15 [.agg c.e,.one (.J 3 (l.map b9.e))] [.agg (cS c l).1.e,.one (.J 1 ((cS c l).2.map cI))]:=
 aks ⟨LN c (by omega) hw,amY c l af,ae⟩
theorem am0(c:aU)(l:List b9)(af:c.sz+4*l.length<=8388608)(hw:fF c):aw 200 [.agg c.e,.one (.J 3 (l.map b9.e))] [.agg (cS c l).1.e,.one (.J 1 ((cS c l).2.map cI))]:=by
 have aj:l.length<=8388608:=by omega
 have k:=eR (P:=prog) (c:=(av f200 0)) (cL 0) l.length (fun i:Nat=>Cf (l.map b9.e) i ((cS c (l.take i)).2.map cI) ((cS c (l.take i)).1.ay.nodes.map Node.e) (cS c (l.take i)).1.ay.aq (cS c (l.take i)).1.ay.cap ((cS c (l.take i)).1.aq.map aL.e) ((cS c (l.take i)).1.bK.map bt.e) ((cS c (l.take i)).1.tokens.map bQ.e) ((cS c (l.take i)).1.news.map bT.e) 0 0) (fun i hi=>by
  obtain⟨p,hp⟩:=dm hi;have aK:=Cs (l.take i) c;have ai:=Mb c l i;have ar:=(Ct (l.take i) c).dZ hw;rw[Ma c hp];dsimp only;rw[Ff];generalize cS c (l.take i)=o at*;exact ak7 ⟨b4 hi,bH,bL hi,bI b9.e hp,amX o.1 p (by omega) ar,by simp[aK];omega,by simp[aK];omega,yt [(cY o.1 p).2],du hi aj,ae⟩) (ak8 ⟨ec,ae⟩)
 rw[k6]at k;exact ak9 ⟨rD c (by omega),k,ae⟩
def hb(c:aU):aU×Nat:=((cS c (fD c)).1,mI (cS c (fD c)).2)
theorem am1{c d:aU}(h:d.ay=c.ay):fD d=fD c:=by unfold fD;rw[h]
theorem Ci(c:aU):oO c (hb c).1:=Ct _ _
theorem MK(c:aU):(hb c).1.sz<=c.sz+400:=by
 have:=Fg (fD c) c;have:=LK c;unfold hb;dsimp only;omega
theorem am2(c:aU)(l:List b9)(af:c.sz+4*l.length<=8388608):dC prog 131 [.ref (fQ c) (fQ (cS c l).1),.ro (.one (.J 3 (l.map b9.e)))] (.vals [.one (I (mI (cS c l).2))]):=by
 have aj:l.length<=8388608:=by omega
 have k:=eR (P:=prog) (c:=(av f131 0)) (cL 0) l.length (fun i:Nat=>xT (l.map b9.e) i (mI (cS c (l.take i)).2) ((cS c (l.take i)).1.ay.nodes.map Node.e) (cS c (l.take i)).1.ay.aq (cS c (l.take i)).1.ay.cap ((cS c (l.take i)).1.aq.map aL.e) ((cS c (l.take i)).1.bK.map bt.e) ((cS c (l.take i)).1.tokens.map bQ.e) ((cS c (l.take i)).1.news.map bT.e) (cq (cS c (l.take i)).1)) (fun i hi=>by
  obtain⟨p,hp⟩:=dm hi;have aK:=Cs (l.take i) c;have aB:=TZ (cS c (l.take i)).2;have ai:=Mb c l i;have bq:=Gd i l;rw[Ma c hp];dsimp only;rw[T0];generalize cS c (l.take i)=o at*;have st:=US o.1 p (by omega);cases ao:(cY o.1 p).2 with
  | true=>
   rw[ao]at st;exact alI ⟨b4 hi,bH,bL hi,bI b9.e hp,st,rfl,⟨by omega,by omega⟩,du hi aj,ae⟩
  | false=>
   rw[ao]at st;exact alJ ⟨b4 hi,bH,bL hi,bI b9.e hp,st,rfl,du hi aj,ae⟩) (alK ⟨ec,ae⟩)
 rw[k6]at k;exact alL ⟨k,ae⟩
theorem am3(c:aU)(af:c.sz+400<=8388608)(hw:fF c):aw 64 [.agg c.e] [.agg (hb c).1.e,.one (I (hb c).2)]:=by
 have ad:=LK c;have run:=am0 c (fD c) (by omega) hw;have aK:=Cs (fD c) c;unfold hb;dsimp only;generalize cS c (fD c)=o at*;have k:=eR (P:=prog) (c:=(av f64 0)) (cL 0) o.2.length (fun i:Nat=>xS (o.1.ay.nodes.map Node.e) o.1.ay.aq o.1.ay.cap (o.1.aq.map aL.e) (o.1.bK.map bt.e) (o.1.tokens.map bQ.e) (o.1.news.map bT.e) (o.2.map cI) i (mI (o.2.take i))) (fun i hi=>by
  obtain⟨b,ao⟩:=dm hi;have aB:=TZ (o.2.take i);have bq:=Gd i o.2;rw[sS,ao,yc,T0];cases b with
  | true=>exact ajl ⟨b4 hi,bH,bL hi,bI cI ao,rfl,⟨by omega,by omega⟩,du hi (by omega),ae⟩
  | false=>exact ajm ⟨b4 hi,bH,bL hi,bI cI ao,rfl,du hi (by omega),ae⟩) (ajn ⟨ec,ae⟩)
 rw[k6]at k;exact ajo ⟨ajf c,run,k,ae⟩
def eL:Nat->aU->Nat->aU×Nat
 | 0,c,k=>(c,k)
 | n+1,c,k=>if (hb c).2=0 then ((hb c).1,k+1) else eL n (hb c).1 (k+1)
def m'(c:aU)(lJ:Int):aU×Nat:=eL (gr lJ 0 3000).toNat c 0
theorem ML:∀(n:Nat) (c:aU) (k:Nat),(eL n c k).1.sz<=c.sz+n*400
 | 0,c,k=>dN _
 | n+1,c,k=>by
  have h1:=MK c;have U:=ML n (hb c).1 (k+1);unfold eL;split
  ·dsimp only;omega
  omega
theorem GD:∀(n:Nat) (c:aU) (k:Nat),oO c (eL n c k).1
 | 0,c,k=>.rfl
 | n+1,c,k=>by
  unfold eL;split
  ·exact Ci c
  exact (Ci c).trans (GD n _ _)
theorem UT{n:Nat}{c:aU}{k:Nat}(bl:¬(hb c).2=0):eL (n+1) c k=eL n (hb c).1 (k+1):=by
 conv=>lhs;unfold eL
 rw[a6 bl]
theorem UU(n:Int):∃k:Nat,gr n 0 3000=k/\k<=3000:=by
 refine⟨(gr n 0 3000).toNat,?_,?_⟩<;>(unfold gr;simp only[show ¬(3000:Int)<0 by omega,k9];split<;>(try split)<;>omega)
theorem y3(n:Nat):((n:Int)==0)=decide (n=0):=by
 rw[Bool.eq_iff_iff];simp only[dp,b'];omega
theorem UW(m:Nat)(hm:m<=3000)(l:List b9):∀(n:Nat) (c:aU) (k:Nat),k+n=m->fD c=l->c.sz+n*400<=8388608->
  c6 prog (av f16 0) (vK (l.map b9.e) m ((k:Int)+1) (c.ay.nodes.map Node.e) c.ay.aq c.ay.cap (c.aq.map aL.e) (c.bK.map bt.e) (c.tokens.map bQ.e) (c.news.map bT.e) (cq c) 0 0) .ret
    (Nh (eL n c k).2 ((eL n c k).1.ay.nodes.map Node.e) (eL n c k).1.ay.aq (eL n c k).1.ay.cap ((eL n c k).1.aq.map aL.e) ((eL n c k).1.bK.map bt.e) ((eL n c k).1.tokens.map bQ.e) ((eL n c k).1.news.map bT.e))\/
  (eL n c k).2=m/\c6 prog (av f16 0) (vK (l.map b9.e) m ((k:Int)+1) (c.ay.nodes.map Node.e) c.ay.aq c.ay.cap (c.aq.map aL.e) (c.bK.map bt.e) (c.tokens.map bQ.e) (c.news.map bT.e) (cq c) 0 0) (.exit 0)
    (Ni m ((eL n c k).1.ay.nodes.map Node.e) (eL n c k).1.ay.aq (eL n c k).1.ay.cap ((eL n c k).1.aq.map aL.e) ((eL n c k).1.bK.map bt.e) ((eL n c k).1.tokens.map bQ.e) ((eL n c k).1.news.map bT.e) (cq (eL n c k).1) 0 0)
 | 0,c,k,hk,_,_=>.inr ⟨by unfold eL;omega,.last (cL 0) (akm ⟨ee (by omega),ae⟩)⟩
 | n+1,c,k,hk,aj,af=>by
  have r:=am2 c l (by have:=LK c;rw[aj]at this;omega);have ai:=MK c;have ar:=(Ci c).ay;have e1:hb c=((cS c l).1,mI (cS c l).2):=by unfold hb;rw[aj]
  by_cases bl:(hb c).2=0
  ·rw[show eL (n+1) c k=((hb c).1,k+1) by unfold eL;rw[aZ bl]];rw[e1]at bl ⊢;exact .inl (.last fl (akl ⟨dr (by omega),r,by rw[y3];exact nh bl,ae⟩))
  rw[UT bl];have dk:=UW m hm l n (hb c).1 (k+1) (by omega) ((am1 ar).trans aj) (by omega);rw[e1]at bl dk ⊢;rcases dk with dk | ⟨aaM,dk⟩
  ·exact .inl (.more (U3 ⟨dr (by omega),r,by rw[y3];exact oN bl,⟨by omega,by omega⟩,ae⟩) dk)
  exact .inr ⟨aaM,.more (U3 ⟨dr (by omega),r,by rw[y3];exact oN bl,⟨by omega,by omega⟩,ae⟩) dk⟩
theorem am4(c:aU)(lJ:Int)(af:c.sz+1200000<=8388608)(hw:fF c):aw 16 [.agg c.e,.one (I lJ)] [.agg (m' c lJ).1.e,.one (I (m' c lJ).2)]:=by
 have b:=Fk lJ 0 3000;obtain⟨m,hm,ao⟩:=UU lJ;unfold m';rw[hm]at b ⊢;rw[nd];rcases UW m (by omega) (fD c) m c 0 (by omega) rfl (by omega) with k | ⟨cy,k⟩
 ·exact akn ⟨LN c (by omega) hw,TO c,b,k,ae⟩
 rw[cy];exact ako ⟨LN c (by omega) hw,TO c,b,k,ae⟩
theorem UX(lJ:Int)(m:Nat)(hm:m<=3000)(b:aw 167 [.one (I lJ),.one (I 0),.one (I 3000)] [.one (I m)]):∀(n:Nat) (c:aU) (k:Nat),k+n=m->fF c->c.sz+n*400<=8388608->
  c6 prog (av f40 0) (vJ lJ k (c.ay.nodes.map Node.e) c.ay.aq c.ay.cap (c.aq.map aL.e) (c.bK.map bt.e) (c.tokens.map bQ.e) (c.news.map bT.e) 0 0) (.exit 0)
    (Nf (eL n c k).2 ((eL n c k).1.ay.nodes.map Node.e) (eL n c k).1.ay.aq (eL n c k).1.ay.cap ((eL n c k).1.aq.map aL.e) ((eL n c k).1.bK.map bt.e) ((eL n c k).1.tokens.map bQ.e) ((eL n c k).1.news.map bT.e) 0 0)\/
  c6 prog (av f40 0) (vJ lJ k (c.ay.nodes.map Node.e) c.ay.aq c.ay.cap (c.aq.map aL.e) (c.bK.map bt.e) (c.tokens.map bQ.e) (c.news.map bT.e) 0 0) (.exit 0)
    (Ng (eL n c k).2 ((eL n c k).1.ay.nodes.map Node.e) (eL n c k).1.ay.aq (eL n c k).1.ay.cap ((eL n c k).1.aq.map aL.e) ((eL n c k).1.bK.map bt.e) ((eL n c k).1.tokens.map bQ.e) ((eL n c k).1.news.map bT.e) 0 0)
 | 0,c,k,hk,_,_=>.inr (.last (cL 0) (ajq ⟨b,ee (by omega),ae⟩))
 | n+1,c,k,hk,hw,af=>by
  have r:=am3 c (by omega) hw;have ai:=MK c;have aaR:=Ci c;by_cases bl:(hb c).2=0
  ·rw[show eL (n+1) c k=((hb c).1,k+1) by unfold eL;rw[aZ bl]];exact .inl (.last (cL 0) (ajp ⟨b,dr (by omega),r,⟨by omega,by omega⟩,by rw[y3];exact nh bl,ae⟩))
  rw[UT bl];have dk:=UX lJ m hm b n (hb c).1 (k+1) (by omega) (aaR.dZ hw) (by omega);rcases dk with dk | dk
  ·exact .inl (.more (VK ⟨b,dr (by omega),r,⟨by omega,by omega⟩,by rw[y3];exact oN bl,ae⟩) dk)
  exact .inr (.more (VK ⟨b,dr (by omega),r,⟨by omega,by omega⟩,by rw[y3];exact oN bl,ae⟩) dk)
theorem am5(c:aU)(lJ:Int)(af:c.sz+1200000<=8388608)(hw:fF c):aw 40 [.agg c.e,.one (I lJ)] [.agg (m' c lJ).1.e,.one (I (m' c lJ).2)]:=by
 have b:=RS lJ 0 3000;obtain⟨m,hm,ao⟩:=UU lJ;unfold m';rw[hm]at b ⊢;rw[nd];rcases UX lJ m (by omega) b m c 0 (by omega) hw (by omega) with k | k
 ·exact ajr ⟨rD c (by omega),k,ae⟩
 exact ajs ⟨rD c (by omega),k,ae⟩
end Go.Proofs.YtdchjefneblpgaaGreat
namespace Go.Proofs.YtdchjefneblpgaaGreat
open Go.Sx Go.RowKit Go.Proofs.Tryz
variable{xs:List Cell}
theorem VN{x z:Cell}:z∈ky xs x<->z=x\/z∈xs:=by
 unfold ky;split
 ·rename_i h;have hm:=(Tg xs x).1 h;exact⟨.inr,fun aW=>aW.elim (fun e=>e▸hm) id⟩
 generalize mx xs x=n;have e:z∈xs<->z∈xs.take n\/z∈xs.drop n:=by rw[<-gV,OA]
 rw[e,gV,et];constructor
 ·rintro (h | h | h)
  ·exact .inr (.inl h)
  ·exact .inl h
  exact .inr (.inr h)
 rintro (h | h | h)
 ·exact .inr (.inl h)
 ·exact .inl h
 exact .inr (.inr h)
theorem VO(op ep key:Int):∀(xs:List Cell) (s:Int×Bool),(xs.foldl (fo op ep key) s).2=true->
  (s.2=true/\(xs.foldl (fo op ep key) s).1=s.1)\/∃a∈xs,vu op ep key a=true/\a.val=(xs.foldl (fo op ep key) s).1
 | [],s,h=>.inl ⟨h,rfl⟩
 | x::xs,s,h=>by
  rw[List.foldl_cons]at h ⊢;rcases VO op ep key xs (fo op ep key s x) h with⟨h1,U⟩ | ⟨a,ad,h1,U⟩
  ·rw[U];unfold fo at h1 ⊢;split
   ·rename_i af;exact .inr ⟨x,eY ..,by simp only[vu,b'];exact⟨af.1,af.2.1,af.2.2.1⟩,rfl⟩
   rename_i af;rw[a6 af]at h1;exact .inl ⟨h1,rfl⟩
  exact .inr ⟨a,fw _ ad,h1,U⟩
variable{u:Cell}
theorem xU{a:Cell}:eO u a=true<->a.op=u.op/\a.a7=u.a7/\a.key=u.key:=by
 simp only[eO,b8,dp];constructor
 ·rintro⟨⟨h1,U⟩,ax⟩;exact⟨h1.symm,U.symm,ax.symm⟩
 rintro⟨h1,U,ax⟩;exact⟨⟨h1.symm,U.symm⟩,ax.symm⟩
def uc(k:Int)(xs:List Cell)(u:Cell):Prop:=if k=6 then u∈xs else ∃a∈xs,eO u a=true/\a.val<=u.val
theorem am6(xs:List Cell)(u:Cell):(h4 xs u).2=false<->∃a∈xs,eO u a=true/\a.val<=u.val:=by
 unfold h4;constructor
 ·intro h;split at h
  ·rename_i af;simp only[b8,b']at af;rcases VO u.op u.a7 u.key xs (0,false) af.1 with⟨h1,_⟩ | ⟨a,ad,h1,U⟩
   ·cases h1
   simp only[vu,b']at h1;exact⟨a,ad,xU.2 h1,by rw[U];exact af.2⟩
  cases h
 rintro⟨a,ad,h1,U⟩;obtain⟨cy,bw⟩:=acC ad (op:=u.op) (ep:=u.a7) (key:=u.key) (by simp only[vu,b'];exact xU.1 h1);rw[cy,nh (by omega)];rfl
variable{k:Int}
theorem GF(hk:k=5\/k=6\/k=8)(xs:List Cell)(u:Cell):(ct k xs u).2=false<->uc k xs u:=by
 unfold ct uc;by_cases bb:k=6
 ·rw[aZ bb,aZ bb,<-Tg];split
  ·rename_i h;exact⟨fun _=>h,fun _=>rfl⟩
  rename_i h;exact⟨fun q=>(by cases q),fun q=>absurd q h⟩
 rw[a6 bb,a6 bb,aZ (by omega)];exact am6 xs u
theorem xV(aQ:k≠5)(bb:k≠6)(dj:k≠8)(xs:List Cell)(u:Cell):ct k xs u=(xs,true):=by
 unfold ct;rw[a6 bb,a6 (by omega)]
theorem am7(h:(ct k xs u).2=false):(ct k xs u).1=xs:=by
 unfold ct at h ⊢;split
 ·rename_i bb;rw[aZ bb]at h;split
  ·rfl
  rename_i h1;rw[a6 h1]at h;cases h
 rename_i bb;rw[a6 bb]at h;split
 ·rename_i h1;rw[aZ h1]at h;exact acF h
 rfl
theorem GG(hk:k=5\/k=6\/k=8){z:Cell}(h:(ct k xs u).2=true):z∈(ct k xs u).1<->z=u\/(z∈xs/\(k≠6->eO u z=false)):=by
 unfold ct at h ⊢;by_cases bb:k=6
 ·rw[aZ bb]at h ⊢;split
  ·rename_i h1;rw[aZ h1]at h;cases h
  rw[VN];exact⟨fun q=>q.imp id fun q=>⟨q,fun n=>absurd bb n⟩,fun q=>q.imp id fun q=>q.1⟩
 rw[a6 bb,aZ (by omega)]at h ⊢;unfold h4 at h ⊢;split
 ·rename_i h1;rw[aZ h1]at h;cases h
 rw[VN,List.mem_filter];simp only[gy];exact⟨fun q=>q.imp id fun q=>⟨q.1,fun _=>q.2⟩,fun q=>q.imp id fun q=>⟨q.1,q.2 bb⟩⟩
theorem am8{k cb:Int}(hk:k=5\/k=6\/k=8){u y:Cell}(kr:y.op=u.op->cb=k)(h:uc k xs u):uc k (ct cb xs y).1 u:=by
 cases az:(ct cb xs y).2 with
 | false=>rw[am7 az];exact h
 | true=>
  by_cases jD:cb=5\/cb=6\/cb=8
  case neg=>rw[xV (by omega) (by omega) (by omega)];exact h
  unfold uc at h ⊢;by_cases bb:k=6
  ·rw[aZ bb]at h ⊢;rw[GG jD az];refine .inr ⟨h,fun cf=>?_⟩;rw[h7];intro ai;exact cf ((kr (xU.1 ai).1.symm).trans bb)
  rw[a6 bb]at h ⊢;obtain⟨a,ad,ai,bz⟩:=h;obtain⟨s1,s2,GN⟩:=xU.1 ai;by_cases Ei:cb≠6/\eO y a=true
  ·obtain⟨t1,t2,t3⟩:=xU.1 Ei.2;refine⟨y,(GG jD az).2 (.inl rfl),xU.2 ⟨by omega,by omega,by omega⟩,?_⟩;have nb:¬uc cb xs y:=fun q=>by rw[(GF jD xs y).2 q]at az;cases az
   unfold uc at nb;rw[a6 Ei.1]at nb;have:¬a.val<=y.val:=fun q=>nb ⟨a,ad,Ei.2,q⟩
   omega
  refine⟨a,(GG jD az).2 (.inr ⟨ad,fun cf=>?_⟩),ai,bz⟩;rw[h7];exact fun q=>Ei ⟨cf,q⟩
theorem am9(hk:k=5\/k=6\/k=8)(h:(ct k xs u).2=true):uc k (ct k xs u).1 u:=by
 have hm:=(GG hk (z:=u) h).2 (.inl rfl);unfold uc;split
 ·exact hm
 exact⟨u,hm,xU.2 ⟨rfl,rfl,rfl⟩,Int.le_refl _⟩
variable{x:Node}{g:b0}
theorem ana{op:Int}(h:fK g op=some x):0<=op/\g.nodes[op.toNat]?=some x:=by
 unfold fK at h;split at h
 ·exact⟨‹_›,h⟩
 cases h
theorem VP(ar:eo g=true){op:Int}(h:fK g op=some x):aH x=true:=by
 simp only[eo,b8,gy]at ar;have:=BW ar.2 op.toNat x (ana h).2;rw[dq]at this;simp only[jL,fR,jW]at this;exact this.1.1
variable{r:aE}
theorem Cj(h:eD r=true):fm r.key r.val=true:=by
 simp only[eD,b8]at h;exact h.2
theorem anb{cs:List Cell}(ar:eo g=true)(az:eD r=true)(aa:fK g r.op=some x):(dW g cs r).1=(ct x.kind cs (cellOf r)).1:=by
 have aK:=VP ar aa;have hi:=Cj az;unfold dW;rw[aa];simp only[dS,ar,az,Bool.and_self,fL];split
 ·rename_i af;simp only[b8,gy,bne_iff_ne,fM]at af;have ax:x.kind=3:=by
   refine Classical.byContradiction fun ax=>?_
   have:=af.1;unfold cC at this;rw[aK,hi]at this;simp only[Bool.and_self,fL]at this;split at this
   ·cases this
   split at this
   ·cases this
   first
   | (rw[a6 ax]at this;simp[af.2]at this)
   | simp[ax,af.2]at this
  rw[xV (by omega) (by omega) (by omega)]
 split
 ·rfl
 ·split<;>rfl
theorem anc{cs:List Cell}(ar:eo g=true)(az:eD r=true)(aa:fK g r.op=some x):(dW g cs r).2.1=
  if (!(cC x r.key r.val).2.2&&x.kind != 8)=true then [] else if (ct x.kind cs (cellOf r)).2=false then []
  else if x.kind=7 then (if (eS r.bh).2=true then e3 x (eS r.bh).1 (cC x r.key r.val).1 (cC x r.key r.val).2.1 else []) else e3 x r.bh (cC x r.key r.val).1 (cC x r.key r.val).2.1:=by
 unfold dW;rw[aa];simp only[dS,ar,az,Bool.and_self,fL];split
 ·rfl
 rw[show (⟨r.op,r.bh.a7,r.key,r.val⟩:Cell)=cellOf r from rfl];cases U:(ct x.kind cs (cellOf r)).2 with
 | false=>rfl
 | true=>
  simp only[iu,ng,k9];split
  ·cases (eS r.bh).2<;>rfl
  rfl
