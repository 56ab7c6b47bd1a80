import Derived.Test.YtdchjefneblpgaaGH
import Derived.Test.YtdchjefneblpgaaP104
set_option linter.unusedVariables false
set_option linter.unusedSimpArgs false
namespace Go.Proofs.Ytdchjefneblpgaa
open Go.Sx Go.RowKit Go.Proofs.Try
def d'(g:bz):Nat->List Cell->List aQ->(List Cell×List aQ)×Nat
 | 0,cs,l=>((cs,l),0)
 | _+1,cs,[]=>((cs,[]),0)
 | k+1,cs,r::l=>((d' g k (cO g cs r).1 (l++(cO g cs r).2.1)).1,(d' g k (cO g cs r).1 (l++(cO g cs r).2.1)).2+1)
theorem Mp{g:bz}(ag:cz g=true):∀(k:Nat) (cs:List Cell) (l:List aQ),(d' g k cs l).1.1.length<=cs.length+k
 | 0,cs,l=>by simp[d']
 | k+1,cs,[]=>by simp only[d'];omega
 | k+1,cs,r::l=>by
  have J:=Mp ag k (cO g cs r).1 (l++(cO g cs r).2.1);have U:=(yJ ag cs r).1;simp only[d'];omega
theorem zG(r:aQ)(l more:List aQ):List.take (((r::l).map aQ.e).length-1) (List.drop 1 ((r::l).map aQ.e))++more.map aQ.e=(l++more).map aQ.e:=by
 rw[gE,List.drop_succ_cons,rn,sY (by simp),kg]
theorem Mq(g:bz)(ag:g.sz<=8388608)(cb:cz g=true)(gt:Nat)(ai:hM prog gt=true)(bH:∀r:aQ,aA gt ([.agg r.e]++([]:List D).map .one) []):∀(k n:Nat) (cs:List Cell) (l:List aQ),n+k=20000->cs.length<=n->l.length<=8388608+2*n->
  dk prog (aF f18 1) (sh gt [] (g.nodes.map Node.e) g.bg g.cap (l.map aQ.e) n (cs.map Cell.e)) (.exit 2) (yG ((d' g k cs l).1.1.map Cell.e) ((n+(d' g k cs l).2:Nat):Int) ((d' g k cs l).1.2.map aQ.e))
 | 0,n,cs,l,aR,iB,ak=>by
  cases l with
  | nil=>exact .last (di 2) (K9 ⟨rfl,aj⟩)
  | cons r l=>exact .last (di 2) (Za ⟨e3 (by simp<;>omega),gG (by omega),aj⟩)
 | k+1,n,cs,[],aR,iB,ak=>.last (di 2) (K9 ⟨rfl,aj⟩)
 | k+1,n,cs,r::l,aR,iB,ak=>by
  obtain⟨J,U⟩:=yJ cb cs r;have s:=Li g cs r ag (by omega);rw[du]at ak;have dw:=Mq g ag cb gt ai bH k (n+1) (cO g cs r).1 (l++(cO g cs r).2.1) (by omega) (by omega) (by rw[mz];omega);simp only[d'];rw[show n+((d' g k (cO g cs r).1 (l++(cO g cs r).2.1)).2+1)=n+1+(d' g k (cO g cs r).1 (l++(cO g cs r).2.1)).2 by omega];refine .more (uI (fun q=>sh gt [] (g.nodes.map Node.e) g.bg g.cap q ((n+1:Nat):Int) ((cO g cs r).1.map Cell.e)) (Y' ⟨e3 (by simp<;>omega),e3 (by omega),by omega,by simp<;>omega,rfl,ai,bH r,by omega,by simp<;>omega,rfl,s,by simp,by simp<;>omega,by simp,by simp<;>omega,by simp<;>omega,bW _ aQ.flat _,⟨by omega,by omega⟩,aj⟩) (zG r l _)) dw
def qi(g:bz):Nat->List Cell->List aQ->Bool->Bool
 | 0,_,_,b=>b
 | _+1,_,[],b=>b
 | k+1,cs,r::l,b=>qi g k (cO g cs r).1 (l++(cO g cs r).2.1) (b||dn g r)
theorem Mr(g:bz)(ag:g.sz<=8388608)(cb:cz g=true):∀(k n:Nat) (cs:List Cell) (l:List aQ) (b:Bool),n+k=20000->cs.length<=n->l.length<=8388608+2*n->
  ((d' g k cs l).1.2=[]/\dk prog (aF f20 1) (kO (g.nodes.map Node.e) g.bg g.cap (l.map aQ.e) n (cs.map Cell.e) b) (.exit 2) (Fo ((d' g k cs l).1.1.map Cell.e) ((n+(d' g k cs l).2:Nat):Int) (qi g k cs l b)))\/
  ((d' g k cs l).1.2≠[]/\dk prog (aF f20 1) (kO (g.nodes.map Node.e) g.bg g.cap (l.map aQ.e) n (cs.map Cell.e) b) .ret (D2 ((d' g k cs l).1.1.map Cell.e) ((n+(d' g k cs l).2:Nat):Int) false (qi g k cs l b)))
 | 0,n,cs,l,b,aR,iB,ak=>by
  cases l with
  | nil=>exact .inl ⟨rfl,.last (di 2) (K8 ⟨rfl,aj⟩)⟩
  | cons r l=>exact .inr ⟨by simp[d'],.last jo (Zy ⟨e3 (by simp<;>omega),e3 (by omega),aj⟩)⟩
 | k+1,n,cs,[],b,aR,iB,ak=>.inl ⟨rfl,.last (di 2) (K8 ⟨rfl,aj⟩)⟩
 | k+1,n,cs,r::l,b,aR,iB,ak=>by
  obtain⟨J,U⟩:=yJ cb cs r;have s:=aaM g cs r ag (by omega);rw[du]at ak;have first:eS prog (aF f20 1) (kO (g.nodes.map Node.e) g.bg g.cap ((r::l).map aQ.e) n (cs.map Cell.e) b) .normal (kO (g.nodes.map Node.e) g.bg g.cap ((l++(cO g cs r).2.1).map aQ.e) ((n+1:Nat):Int) ((cO g cs r).1.map Cell.e) (b||dn g r)):=by
   cases b with
   | true=>exact uI (fun q=>kO (g.nodes.map Node.e) g.bg g.cap q ((n+1:Nat):Int) ((cO g cs r).1.map Cell.e) true) (Zz ⟨e3 (by simp<;>omega),gG (by omega),rfl,by omega,by simp<;>omega,rfl,s,by simp,by simp<;>omega,by simp,by simp<;>omega,by simp<;>omega,bW _ aQ.flat _,⟨by omega,by omega⟩,aj⟩) (zG r l _)
   | false=>exact uI (fun q=>kO (g.nodes.map Node.e) g.bg g.cap q ((n+1:Nat):Int) ((cO g cs r).1.map Cell.e) (dn g r)) (ZA ⟨e3 (by simp<;>omega),gG (by omega),rfl,by omega,by simp<;>omega,rfl,aaO g r ag,by omega,by simp<;>omega,rfl,s,by simp,by simp<;>omega,by simp,by simp<;>omega,by simp<;>omega,bW _ aQ.flat _,⟨by omega,by omega⟩,aj⟩) (zG r l _)
  have dw:=Mr g ag cb k (n+1) (cO g cs r).1 (l++(cO g cs r).2.1) (b||dn g r) (by omega) (by omega) (by rw[mz];omega);simp only[d',qi];rw[show n+((d' g k (cO g cs r).1 (l++(cO g cs r).2.1)).2+1)=n+1+(d' g k (cO g cs r).1 (l++(cO g cs r).2.1)).2 by omega];rcases dw with⟨ax,aJ⟩ | ⟨ax,aJ⟩
  ·exact .inl ⟨ax,.more first aJ⟩
  exact .inr ⟨ax,.more first aJ⟩
def fresh(r:aQ):aQ:=⟨0,⟨r.bl.aV,0⟩,r.key,r.val⟩
def fW(xs:List aQ)(e:Int):List aQ:=((il e xs).filter c8).map fresh
theorem Fv(xs:List aQ)(e:Int):(fW xs e).length<=xs.length:=by
 simp only[fW,br,il];exact k2 (mC ..) (mC ..)
theorem zH(r:aQ)(b:Bool)(h:c8 r=b):aA 31 [.agg r.e] [.one (B b)]:=h▸zc r
theorem Ms(r:aQ)(b:Bool)(h:c8 r=b):aA 34 [.agg r.e] [.one (B b)]:=h▸zb r
theorem Fw(p:aQ->Bool){xs:List aQ}{i:Nat}{a:aQ}(h:xs[i]?=some a):(((xs.take (i+1)).filter p).map fresh).map aQ.e=(((xs.take i).filter p).map fresh).map aQ.e++(if p a then [[I 0,I a.bl.aV,I 0,I a.key,I a.val]] else []):=by
 rw[q3 p h];split
 ·simp only[kg];rfl
 simp
theorem aaU(g:bz)(gt:Nat)(xs:List aQ)(ak:xs.length<=8388608):dk prog (aF f18 0) (qH gt [] (xs.map aQ.e) 0 [] (g.nodes.map Node.e) g.bg g.cap) (.exit 0) (Fp gt [] (((xs.filter c8).map fresh).map aQ.e) (g.nodes.map Node.e) g.bg g.cap):=by
 have l:=gx (P:=prog) (c:=(aF f18 0)) (di 0) xs.length (fun i:Nat=>qH gt [] (xs.map aQ.e) i ((((xs.take i).filter c8).map fresh).map aQ.e) (g.nodes.map Node.e) g.bg g.cap) (fun i hi=>by
  obtain⟨a,aC⟩:=cT hi;have bn:=pO c8 xs i;rw[Fw c8 aC];cases hp:c8 a with
  | true=>
   rw[bb rfl];exact Y7 ⟨dr hi,c1,dh hi,c2 aQ.e aC,zH a true hp,rfl,by simp<;>omega,by simp<;>omega,dt (fresh a).flat,eN hi ak,aj⟩
  | false=>
   rw[aZ (by simp),ja];exact Y8 ⟨dr hi,c1,dh hi,c2 aQ.e aC,zH a false hp,rfl,eN hi ak,aj⟩) (Y9 ⟨fb,aj⟩)
 rw[jS]at l;exact l
theorem aaV(g:bz)(e:Int)(xs:List aQ)(ak:xs.length<=8388608):dk prog (aF f20 0) (nL (xs.map aQ.e) e 0 [] (g.nodes.map Node.e) g.bg g.cap) (.exit 0) (yF ((fW xs e).map aQ.e) (g.nodes.map Node.e) g.bg g.cap):=by
 let p:=fun r:aQ=>r.bl.aV==e&&c8 r
 have l:=gx (P:=prog) (c:=(aF f20 0)) (di 0) xs.length (fun i:Nat=>nL (xs.map aQ.e) e i ((((xs.take i).filter p).map fresh).map aQ.e) (g.nodes.map Node.e) g.bg g.cap) (fun i hi=>by
  obtain⟨a,aC⟩:=cT hi;have bn:=pO p xs i;rw[Fw p aC];cases J:(a.bl.aV==e) with
  | false=>
   rw[aZ (by simp[p,J]),ja];exact Zw ⟨dr hi,c1,dh hi,c2 aQ.e aC,J,eN hi ak,aj⟩
  | true=>
   cases U:c8 a with
   | true=>
    rw[bb (by simp only[p,J,U];rfl)];exact Zu ⟨dr hi,c1,dh hi,c2 aQ.e aC,J,c1,dh hi,c2 aQ.e aC,Ms a true U,rfl,c1,dh hi,c2 aQ.e aC,by simp<;>omega,by simp<;>omega,dt (fresh a).flat,eN hi ak,aj⟩
   | false=>
    rw[aZ (by simp[p,U]),ja];exact Zv ⟨dr hi,c1,dh hi,c2 aQ.e aC,J,c1,dh hi,c2 aQ.e aC,Ms a false U,rfl,eN hi ak,aj⟩) (Zx ⟨fb,aj⟩)
 rw[jS]at l;have aK:(xs.filter p).map fresh=fW xs e:=by simp only[fW,il,List.filter_filter,p];congr 2;funext r;rw[Bool.and_comm]
 rw[aK]at l;exact l
def gh(g:bz)(xs:List aQ)(e:Int):List Cell×Int×Bool:=
 if cz g then ((d' g 20000 [] (fW xs e)).1.1,((d' g 20000 [] (fW xs e)).2:Int),decide ((d' g 20000 [] (fW xs e)).1.2=[])) else ([],0,false)
theorem zI(g:bz)(xs:List aQ)(e:Int):(gh g xs e).1.length<=8388608:=by
 unfold gh;split
 ·have:=Mp ‹cz g=true› 20000 [] (fW xs e);simp only[bG]at this;show (d' g 20000 [] (fW xs e)).1.1.length<=_;omega
 simp
def qI(g:bz)(xs:List aQ)(e:Int):Bool:=cz g&&qi g 20000 [] (fW xs e) false
theorem Mt(g:bz)(xs:List aQ)(e:Int)(ag:g.sz<=8388608)(ak:xs.length<=8388608):aA 20 [.agg g.e,.one (.aa 5 (xs.map aQ.e)),.one (I e)] [.one (.aa 4 ((gh g xs e).1.map Cell.e)),.one (I (gh g xs e).2.1),.one (B (gh g xs e).2.2),.one (B (qI g xs e))]:=by
 have c:=ze g ag;unfold gh qI;cases h:cz g with
 | false=>
  rw[h]at c;exact Zt ⟨c,rfl,aj⟩
 | true=>
  rw[h]at c;have fO:=aaV g e xs ak;have ad:=Fv xs e;have jm:=Mr g ag h 20000 0 [] (fW xs e) false rfl (by simp) (by omega);rw[bb rfl,rl];rcases jm with⟨J,jm⟩ | ⟨J,jm⟩
  ·rw[e3 J];rw[cP]at jm;exact ZC ⟨c,rfl,fO,jm,aj⟩
  rw[gG J];rw[cP]at jm;exact ZB ⟨c,rfl,fO,jm,aj⟩
theorem Mu(g:bz)(xs:List aQ)(e:Int)(ag:g.sz<=8388608)(ak:xs.length<=8388608):∃b,aA 20 [.agg g.e,.one (.aa 5 (xs.map aQ.e)),.one (I e)] [.one (.aa 4 ((gh g xs e).1.map Cell.e)),.one (I (gh g xs e).2.1),.one (B (gh g xs e).2.2),.one (B b)]:=
 ⟨_,Mt g xs e ag ak⟩
theorem aaW(g:bz)(xs:List aQ)(e:Int)(ag:g.sz<=8388608)(ak:xs.length<=8388608):aA 11 [.agg g.e,.one (.aa 5 (xs.map aQ.e)),.one (I e)] [.one (B (qI g xs e))]:=
 aaT ⟨Mt g xs e ag ak,aj⟩
theorem aaX(g:bz)(xs:List aQ)(e:Int)(gt:Nat)(ag:g.sz<=8388608)(ak:xs.length<=8388608)(ai:hM prog gt=true)(bH:∀r:aQ,aA gt ([.agg r.e]++([]:List D).map .one) []):aA 18 [.agg g.e,.one (.aa 5 (xs.map aQ.e)),.one (I e),.one (.da gt [])] [.one (.aa 4 ((gh g xs e).1.map Cell.e)),.one (I (gh g xs e).2.1),.one (B (gh g xs e).2.2)]:=by
 have c:=wI g ag;unfold gh;cases h:cz g with
 | false=>
  rw[h]at c;exact Y6 ⟨c,rfl,aj⟩
 | true=>
  rw[h]at c;have aM:(il e xs).length<=8388608:=k2 (mC ..) ak;have fO:=aaU g gt (il e xs) aM;have ad:=Fv xs e;have jm:=Mq g ag h gt ai bH 20000 0 [] (fW xs e) rfl (by simp) (by omega);rw[cP]at jm;rw[bb rfl];have key:((↑((d' g 20000 [] (fW xs e)).1.2.map aQ.e).length:Int)==0)=decide ((d' g 20000 [] (fW xs e)).1.2=[]):=by
   cases (d' g 20000 [] (fW xs e)).1.2 with
   | nil=>rfl
   | cons a l=>
    rw[show decide (a::l=[])=false from gG (by simp)];simp only[br,du,sZ,ki];omega
  show gm _ _ _ [_,_,.one (B (decide ((d' g 20000 [] (fW xs e)).1.2=[])))];rw[<-key];exact Zb ⟨c,rfl,Lk xs e ak,fO,jm,aj⟩
theorem Fx(g:bz)(xs:List aQ)(e:Int)(ag:g.sz<=8388608)(ak:xs.length<=8388608):aA 6 [.agg g.e,.one (.aa 5 (xs.map aQ.e)),.one (I e)] [.one (.aa 4 ((gh g xs e).1.map Cell.e)),.one (I (gh g xs e).2.1),.one (B (gh g xs e).2.2)]:=
 Zd ⟨aaX g xs e 19 ag ak (by kernel_rfl) (fun _=>Zc trivial),aj⟩
theorem aaY(g:bz)(xs:List aQ)(e:Int)(ag:g.sz<=8388608)(ak:xs.length<=8388608):aA 7 [.agg g.e,.one (.aa 5 (xs.map aQ.e)),.one (I e)] [.one (.aa 4 ((gh g xs e).1.map Cell.e)),.one (I (gh g xs e).2.1),.one (B (gh g xs e).2.2)]:=by
 obtain⟨b,h⟩:=Mu g xs e ag ak;exact ZD ⟨h,aj⟩
theorem Mv(g:bz)(xs:List aQ)(e:Int)(ag:g.sz<=8388608)(ak:xs.length<=8388608):aA 9 [.agg g.e,.one (.aa 5 (xs.map aQ.e)),.one (I e)] [.one (I (gh g xs e).2.1)]:=
 Ze ⟨Fx g xs e ag ak,aj⟩
def sj(g:bz)(xs:List aQ)(e:Int):List Cell:=pP g (gh g xs e).1
theorem aaZ(g:bz)(xs:List aQ)(e:Int):(sj g xs e).length<=8388608:=Uf (zI g xs e)
theorem aa0(g:bz)(xs:List aQ)(e:Int)(ag:g.sz<=8388608)(ak:xs.length<=8388608):aA 13 [.agg g.e,.one (.aa 5 (xs.map aQ.e)),.one (I e)] [.one (.aa 4 ((sj g xs e).map Cell.e))]:=by
 obtain⟨b,h⟩:=Mu g xs e ag ak;exact ZE ⟨h,LI g _ ag (zI g xs e),aj⟩
theorem aa1(g:bz)(xs:List aQ)(e:Int)(ag:g.sz<=8388608)(ak:xs.length<=8388608):aA 12 [.agg g.e,.one (.aa 5 (xs.map aQ.e)),.one (I e)] [.one (.aa 4 ((sj g xs e).map Cell.e))]:=
 aaF ⟨Fx g xs e ag ak,Ue g _ ag (zI g xs e),aj⟩
end Go.Proofs.Ytdchjefneblpgaa
namespace Go.Proofs.Ytdchjefneblpgaa
open Go.Sx Go.RowKit Go.Proofs.Try
theorem Mw(a:Cell):¬eH a a<0:=by
 rw[FH];exact Lu _
theorem aa2{jm CS:List Cell}(J:jm.Pairwise fun a b=>eH a b<0)(U:CS.Pairwise fun a b=>eH a b<0)(h:∀a,a∈jm<->a∈CS):jm=CS:=by
 have aX:∀{l:List Cell},(l.Pairwise fun a b=>eH a b<0)->l.Nodup:=fun ak=>ak.imp fun {a b} jj=>by
  rintro rfl;exact Mw _ jj
 exact List.Perm.eq_of_pairwise (le:=fun a b=>eH a b<0) (fun a b _ _ cf bM=>absurd (FI cf bM) (Mw a)) J U ((List.perm_ext_iff_of_nodup (aX J) (aX U)).2 h)
theorem aa3{g:bz}{z:Cell}:h5 g z=true<->oo g z.op=8:=by
 unfold h5 oo;cases dd g z.op with
 | none=>simp
 | some n=>simp
end Go.Proofs.Ytdchjefneblpgaa
namespace Go.Proofs.Ytdchjefneblpgaa
open Go.Sx Go.RowKit Go.Proofs.Try
variable{x:Cell}
theorem Mx{k:Int}{xs:List Cell}(h:xs.Pairwise fun a b=>eH a b<0):(bZ k xs x).1.Pairwise fun a b=>eH a b<0:=by
 unfold bZ;split
 ·split
  ·exact h
  exact L2 x h
 split
 ·exact Mj x h
 exact h
variable{g:bz}
theorem aa4{cs:List Cell}{r:aQ}(h:cs.Pairwise fun a b=>eH a b<0):(cO g cs r).1.Pairwise fun a b=>eH a b<0:=by
 unfold cO;split
 ·unfold cU;split
  ·split
   ·exact h
   split
   ·exact Mx h
   ·split<;>exact Mx h
  exact h
 exact h
variable{z:Cell}
theorem My{xs:List Cell}(h:z∈gf xs x):z=x\/z∈xs:=by
 by_cases ae:x∈xs
 ·unfold gf at h;rw[bb ((yK xs x).2 ae)]at h;exact .inr h
 exact dj.1 ((KQ ae).mem_iff.1 h)
theorem Mz{k:Int}{xs:List Cell}(h:z∈(bZ k xs x).1):z=x\/z∈xs:=by
 unfold bZ at h;split at h
 ·split at h
  ·exact .inr h
  exact My h
 split at h
 ·unfold dO at h;split at h
  ·exact .inr h
  exact (My h).imp id fun h=>(List.mem_filter.1 h).1
 exact .inr h
theorem aaf{cs:List Cell}{r:aQ}(h:z∈(cO g cs r).1):z=cellOf r\/z∈cs:=by
 unfold cO at h;split at h
 ·unfold cU at h;split at h
  ·split at h
   ·exact .inr h
   split at h
   ·exact Mz h
   ·split at h<;>exact Mz h
  exact .inr h
 exact .inr h
def Rh(cs:List Cell):Nat->List Cell
 | 0=>cs
 | _+1=>[]
def Fy(g:bz)(e:Int)(F ins cs:List Cell)(l:List aQ)(b:Bool):Prop:=
 ∃H,o0 g F ins e H (fun q=>q∈l) (fun _=>False) (Rh cs) (fun _=>0) (b=true)
variable{e:Int}
theorem MA(ag:cz g=true){F ins:List Cell}(xT:∀x∈F,∀y∈gO g x,eX (fun a=>a∈F) y)(xU:∀x∈F,c9 x.key x.val=true):
  ∀(k:Nat) (cs:List Cell) (l:List aQ) (b:Bool),(∀q∈l,lD g q=false/\q.bl.aV=e)->(cs.Pairwise fun a b=>eH a b<0)->(∀z∈cs,z.aV=e)->Fy g e F ins cs l b->(d' g k cs l).1.2=[]->
  ((d' g k cs l).1.1.Pairwise fun a b=>eH a b<0)/\(∀z∈(d' g k cs l).1.1,z.aV=e)/\Fy g e F ins (d' g k cs l).1.1 [] (qi g k cs l b)
 | 0,cs,l,b,_,ad,he,h,bX=>by
  have bX:l=[]:=bX;subst bX;exact⟨ad,he,h⟩
 | k+1,cs,[],b,_,ad,he,h,_=>⟨ad,he,h⟩
 | k+1,cs,r::l,b,aw,ad,he,⟨H,h⟩,bX=>by
  obtain⟨ah,iD⟩:=aw r (fk ..);refine MA ag xT xU k (cO g cs r).1 (l++(cO g cs r).2.1) (b||dn g r) (fun q hm=>?_) (aa4 ad) (fun z aL=>?_) ⟨_,h.work (i:=0) ag xT xU ah iD (fk ..) rfl (fun q hm=>?_) (fun q hm=>gQ _ hm) (fun q hm=>?_) rfl (fun j aU=>?_) (fun h=>?_) (fun h=>?_)⟩ bX
  ·rcases hA.1 hm with hm | hm
   ·exact aw q (eQ _ hm)
   have:=aaB (g:=g) (cs:=cs) (r:=r);unfold jt at this;rw[gD,hP]at this;exact⟨by simpa using this q hm,(E2 g cs r q hm).trans iD⟩
  ·rcases aaf aL with rfl | aL
   ·exact iD
   exact he z aL
  ·rcases dj.1 hm with rfl | hm
   ·exact .inr rfl
   exact .inl (gl _ hm)
  ·rcases hA.1 hm with hm | hm
   ·exact .inl (eQ _ hm)
   exact .inr hm
  ·cases j with
   | zero=>exact absurd rfl aU
   | succ j=>rfl
  ·rw[h];rfl
  rw[h,Bool.or_true]
variable{xs:List aQ}
theorem Fz(ag:cz g=true):∀q∈fW xs e,(lD g q=false/\q.bl.aV=e)/\cellOf q∈h8 e xs:=by
 intro q aw;simp only[fW,eC]at aw;obtain⟨r,ar,rfl⟩:=aw;have dA:=ar;simp only[List.mem_filter,il,fR]at ar;obtain⟨⟨J,U⟩,ax⟩:=ar;refine⟨⟨?_,U⟩,eC.2 ⟨r,dA,?_⟩⟩
 ·have ak:1<=(g.nodes.length:Int):=by
   simp only[cz,b0,af,cF]at ag;omega
  simp only[c8,fB,af,b0,cF]at ax;have k:c8 (fresh r)=true:=by
   have cf:=ax.1.2;have bM:=ax.2;unfold c8 fB;change (af 0 0 7&&(af r.bl.aV 0 3&&af 0 0 6)&&c9 r.key r.val)=true;rw[bM];simp[af];omega
  unfold lD;rw[k,uL,GK,mG];change ¬(0:Int)>=_;omega
 unfold cellOf cellsOf fresh;rw[U]
theorem aag(h:x∈h8 e xs):∃q∈fW xs e,cellOf q=x:=by
 unfold h8 at h;obtain⟨r,ar,rfl⟩:=eC.1 h;refine⟨fresh r,eC.2 ⟨r,ar,rfl⟩,?_⟩;have:=(List.mem_filter.1 ar).1;unfold il at this;have:=(List.mem_filter.1 this).2;rw[fR]at this;unfold cellOf cellsOf fresh;rw[this]
theorem MB(h:¬(0<=e/\e<=3)):(il e xs).filter c8=[]:=by
 rw[List.filter_eq_nil_iff];intro r ar cb;unfold il at ar;have:=(List.mem_filter.1 ar).2;rw[fR]at this;simp only[c8,fB,af,b0,cF]at cb;omega
theorem aah(g:bz)(best:List Cell):∀k,ql g k best []=best
 | 0=>rfl
 | _+1=>rfl
theorem aai(cb:(gh g xs e).2.2=true)(ai:qI g xs e=false):sj g xs e=wL g e xs:=by
 unfold gh at cb;split at cb
 ·rename_i ag;have bX:(d' g 20000 [] (fW xs e)).1.2=[]:=by simpa using cb
  unfold qI at ai;rw[ag,rl]at ai;have aM:sj g xs e=pP g (d' g 20000 [] (fW xs e)).1.1:=by
   unfold sj gh;rw[bb ag]
  rw[aM];by_cases he:0<=e/\e<=3
  ·have A4:=abg ag he xs;have best:=KW g e xs;have C0:∀x,jE e (fun _=>False) (fun q=>q∈fW xs e) x->x∈h8 e xs:=by
    rintro x (ae | ⟨r,ar,_,rfl⟩)
    ·exact ae.elim
    exact (Fz ag r ar).2
   have fin:∀{x:Cell},eX (fun a=>a∈nM g e xs\/a∈[]) x->eX (fun a=>a∈nM g e xs) x:=fun h=>h.mono fun a aC=>.self (aC.resolve_right (by simp))
   have g0:Fy g e (nM g e xs) (h8 e xs) [] (fW xs e) false:=by
    refine⟨fun _=>False,fun x ae=>.inr ?_,fun x ae=>fin (A4.ins x (C0 x ae)),fun x ae=>⟨EY ag he x (C0 x ae),yO x (C0 x ae)⟩,fun _ x ae=>ae.elim,fun i z aL=>?_,fun x ae=>ae.elim,fun i z aL=>?_⟩
    ·obtain⟨q,aw,rfl⟩:=aag ae;exact .self (.inr ⟨q,aw,(Fz ag q aw).1.2,rfl⟩)
    ·cases i<;>cases aL
    ·cases i<;>cases aL
   obtain⟨s1,s2,H,h⟩:=MA ag (fun x ae y a7=>fin (A4.closed x ae y a7)) (fun x ae=>(A4.fit x (.inl ae)).2.1) 20000 [] (fW xs e) false (fun q aw=>(Fz ag q aw).1) List.Pairwise.nil (by simp) g0 bX;obtain⟨f1,f2⟩:=h.final (by rw[ai];simp) (fun q aw=>by cases aw) (fun _ ae=>ae) (fun K cf bM fy=>abh ag he cf bM fy) (fun a aC b ah l6=>Ml best aC ah l6) ag;refine aa2 ?_ ?_ fun z=>?_
   ·unfold pP;exact s1.filter _
   ·unfold wL pP;exact (abi).filter _
   unfold wL pP;rw[List.mem_filter,List.mem_filter,aa3];constructor
   ·rintro⟨aL,cZ⟩;exact⟨f1 0 z aL (s2 z aL) cZ,cZ⟩
   rintro⟨aL,cZ⟩;exact⟨f2 z aL cZ,cZ⟩
  have aK:fW xs e=[]:=by unfold fW;rw[MB he];rfl
  have aO:h8 e xs=[]:=by unfold h8;rw[MB he];rfl
  rw[aK];unfold wL nM;rw[aO,aah];rfl
 cases cb
