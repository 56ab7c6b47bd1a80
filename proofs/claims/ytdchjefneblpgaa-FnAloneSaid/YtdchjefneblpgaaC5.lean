import Derived.Test.YtdchjefneblpgaaGT
import Derived.Test.YtdchjefneblpgaaP21
set_option linter.unusedVariables false
set_option linter.unusedSimpArgs false
namespace Go.Proofs.Ytdchjefneblpgaa
open Go.Sx Go.RowKit Go.Proofs.Try
theorem Mb{P:Program}{c:Code}{α:Type}[DecidableEq α](xs ys:List α)(ak:xs.length=ys.length)(st:Nat->aG){aK aO:fH}{X Y:aG}(tq:aK.lQ≠.normal)(lZ:aO.lQ≠.normal)
  (iR:∀i a b,xs[i]?=some a->ys[i]?=some b->decide (a=b)=true->eS P c (st i) .normal (st (i+1))) (vu:∀i a b,xs[i]?=some a->ys[i]?=some b->decide (a=b)=false->eS P c (st i) aK X) (rS:eS P c (st xs.length) aO Y):
  (xs=ys/\dk P c (st 0) aO Y)\/(xs≠ys/\dk P c (st 0) aK X):=by
 rcases J0 xs ys ak with h | ⟨i,a,b,J,U,ax,aJ⟩
 ·subst h;refine .inl ⟨rfl,gx lZ xs.length st (fun i hi=>?_) rS⟩;obtain⟨a,aC⟩:=cT hi;exact iR i a a aC aC (by simp)
 refine .inr ⟨fun e=>by subst e;rw[J]at U;exact ax (e0 U),gx tq i st (fun j aU=>?_) (vu i a b J U (by simpa using ax))⟩;obtain⟨c,ai⟩:=cT (xs:=xs) (i:=j) (by have:=ct J;omega);exact iR j c c ai (by rw[<-aJ j aU];exact ai) (by simp)
theorem Ix{b:Bool}(h:b=true):(!b)=false:=by rw[h];rfl
theorem Iw{b:Bool}(h:b=false):(!b)=true:=by rw[h];rfl
theorem yq{α β:Type}{f g:α->β}{xs ys:List α}(h:xs.length=ys.length):(((xs.map f).length:Int) != ((ys.map g).length:Int))=false:=by simp[h]
theorem Mc{α β:Type}{f g:α->β}{xs ys:List α}(h:¬xs.length=ys.length):(((xs.map f).length:Int) != ((ys.map g).length:Int))=true:=by simp;omega
theorem abU(xs ys:List Cell)(ae:xs.length<=8388608):aA 26 [.one (.aa 4 (xs.map Cell.e)),.one (.aa 4 (ys.map Cell.e))] [.one (B (decide (xs=ys)))]:=by
 by_cases ak:xs.length=ys.length
 ·have l:=Mb (P:=prog) (c:=(aF f26 0)) xs ys ak (fun i=>sm (xs.map Cell.e) (ys.map Cell.e) i) (X:=FJ false) jo (di 0)
   (fun i a b aC ah h=>aaE ⟨dr (ct aC),c1,dh (ct aC),c2 Cell.e aC,c1,dh (ct ah),c2 Cell.e ah,Ix ((r9 a b).trans h),eN (ct aC) ae,aj⟩)
   (fun i a b aC ah h=>aaD ⟨dr (ct aC),c1,dh (ct aC),c2 Cell.e aC,c1,dh (ct ah),c2 Cell.e ah,Iw ((r9 a b).trans h),aj⟩)
   (Z5 ⟨fb,aj⟩)
  rcases l with⟨h,l⟩ | ⟨h,l⟩
  ·rw[e3 h];exact Z7 ⟨yq ak,l,aj⟩
  rw[gG h];exact Z6 ⟨yq ak,l,aj⟩
 rw[gG (fun e=>ak (by rw[e]))];exact aaC ⟨Mc ak,aj⟩
theorem abV(xs ys:List Cell)(ae:xs.length<=8388608):aA 8 [.one (.aa 4 (xs.map Cell.e)),.one (.aa 4 (ys.map Cell.e))] [.one (B (decide (xs=ys)))]:=by
 by_cases ak:xs.length=ys.length
 ·have l:=Mb (P:=prog) (c:=(aF f8 0)) xs ys ak (fun i=>qN (xs.map Cell.e) (ys.map Cell.e) i) (X:=FK false) jo (di 0)
   (fun i a b aC ah h=>L5 ⟨dr (ct aC),c1,dh (ct aC),c2 Cell.e aC,c1,dh (ct ah),c2 Cell.e ah,Ix ((r9 a b).trans h),eN (ct aC) ae,aj⟩)
   (fun i a b aC ah h=>Z' ⟨dr (ct aC),c1,dh (ct aC),c2 Cell.e aC,c1,dh (ct ah),c2 Cell.e ah,Iw ((r9 a b).trans h),aj⟩)
   (L7 ⟨fb,aj⟩)
  rcases l with⟨h,l⟩ | ⟨h,l⟩
  ·rw[e3 h];exact L8 ⟨yq ak,l,aj⟩
  rw[gG h];exact aab ⟨yq ak,l,aj⟩
 rw[gG (fun e=>ak (by rw[e]))];exact Z9 ⟨Mc ak,aj⟩
theorem abW(xs ys:List Cell)(ae:xs.length<=8388608):aA 15 [.one (.aa 4 (xs.map Cell.e)),.one (.aa 4 (ys.map Cell.e))] [.one (B (decide (xs=ys)))]:=
 Z8 ⟨abU xs ys ae,aj⟩
end Go.Proofs.Ytdchjefneblpgaa
namespace Go.Proofs.Ytdchjefneblpgaa
open Go.Sx Go.RowKit Go.Proofs.Try
theorem abX{n:Node}{x:Cell}{k v:Int}{i:Nat}{o:Int}(h:n.outs[i]?=some o):((n.outs.take (i+1)).map fun o=>(⟨o,x.aV,k,v⟩:Cell)).map Cell.e=((n.outs.take i).map fun o=>(⟨o,x.aV,k,v⟩:Cell)).map Cell.e++[[I o,I x.aV,I k,I v]]:=by
 simp[uP,h,Cell.e]
theorem abY(n:Node)(x:Cell)(key val:Int)(A9:Bool)(fg:List (List D))(aR:n.outs.length<=8388608):dk prog (aF f43 0) (sn x.op x.aV x.key x.val n.kind n.a n.b (n.outs.map aY) fg key val A9 0 []) (.exit 0) (zL fg ((if A9 then uD n x key val else []).map Cell.e)):=by
 cases A9 with
 | false=>
  by_cases h:0<n.outs.length
  ·exact .last (di 0) (abL ⟨e3 (by simp only[br];omega),rfl,aj⟩)
  exact .last (di 0) (L9 ⟨gG (by simp only[br];omega),aj⟩)
 | true=>
  have l:=gx (P:=prog) (c:=(aF f43 0)) (di 0) n.outs.length (fun i:Nat=>sn x.op x.aV x.key x.val n.kind n.a n.b (n.outs.map aY) fg key val true i (((n.outs.take i).map fun o=>(⟨o,x.aV,key,val⟩:Cell)).map Cell.e)) (fun i hi=>by
   obtain⟨o,aM⟩:=cT hi;rw[abX aM];exact abK ⟨dr hi,rfl,c1,dh hi,c2 aY aM,by simp<;>omega,by simp<;>omega,dt (Cell.flat ⟨o,x.aV,key,val⟩),eN hi aR,aj⟩) (L9 ⟨fb,aj⟩)
  rw[jS]at l;exact l
theorem abZ(xs:List Cell)(x:Cell):bZ 5 xs x=dO xs x:=by
 unfold bZ;rw[aZ (by decide),bb (.inl rfl)]
theorem ab0(g:bz)(best:List Cell)(x:Cell)(ag:g.sz<=8388608)(ak:best.length<=8388608):aA 43 [.agg g.e,.one (.aa 4 (best.map Cell.e)),.agg x.e] [.one (.aa 4 ((gX g best x).1.map Cell.e)),.one (.aa 4 ((gX g best x).2.map Cell.e))]:=by
 have dy:(([]:List (List D)).length+(best.map Cell.e).length)*32<=140737488355328:=by simp<;>omega
 have a2:([]:List (List D)).length+(best.map Cell.e).length<=9223372036854775807:=by simp<;>omega
 have a3:=bW _ Cell.flat best;unfold gX;cases h:dd g x.op with
 | none=>exact aac ⟨dy,a2,a3,q6 g x.op (⟨0,0,0,[]⟩,false) (by unfold mm;rw[h]) ag,rfl,aj⟩
 | some n=>
  dsimp only;have aR:=bz.tL ag (y' h);have dH:=q6 g x.op (n,true) (by unfold mm;rw[h]) ag;have bK:=ze g ag;have cL:=ht x.aV 0 3;have cI:=ht x.key 0 99;have fJ:=ht x.val 0 999;have eT:=Fs 5 best x ak;have fm:=K2 n x.key x.val aR;rw[abZ]at eT;rw[show c9 x.key x.val=(af x.key 0 99&&af x.val 0 999) from rfl];have da:=fun fg=>abY n x (bL n x.key x.val).1 (bL n x.key x.val).2.1 (bL n x.key x.val).2.2 fg aR
  have vo:=yM (xs:=best) (x:=x);generalize cz g=fU at*;generalize af x.aV 0 3=fa at*;generalize af x.key 0 99=o5 at*;generalize af x.val 0 999=rD at*;generalize dO best x=OO at*;obtain⟨fg,OK⟩:=OO;cases fU with
  | false=>exact aad ⟨dy,a2,a3,dH,rfl,bK,rfl,aj⟩
  | true=>
   cases fa with
   | false=>exact aae ⟨dy,a2,a3,dH,rfl,bK,rfl,cL,rfl,aj⟩
   | true=>
    cases o5 with
    | false=>exact abH ⟨dy,a2,a3,dH,rfl,bK,rfl,cL,rfl,cI,rfl,aj⟩
    | true=>
     cases rD with
     | false=>exact abI ⟨dy,a2,a3,dH,rfl,bK,rfl,cL,rfl,cI,rfl,fJ,rfl,aj⟩
     | true=>
      cases OK with
      | false=>
       have e:fg=best:=vo rfl;subst e;exact abJ ⟨dy,a2,a3,dH,rfl,bK,rfl,cL,rfl,cI,rfl,fJ,rfl,eT,rfl,aj⟩
      | true=>exact abM ⟨dy,a2,a3,dH,rfl,bK,rfl,cL,rfl,cI,rfl,fJ,rfl,eT,rfl,fm,da _,aj⟩
theorem adZ(x:Cell)(l more:List Cell):List.take (((x::l).map Cell.e).length-1) (List.drop 1 ((x::l).map Cell.e))++more.map Cell.e=(l++more).map Cell.e:=by
 rw[gE,List.drop_succ_cons,rn,sY (by simp),kg]
theorem Md{e:Int}{best l:List Cell}:l.length<=p4 best l:=by unfold p4;omega
theorem Me(g:bz)(e:Int)(ag:g.sz<=8388608):∀(k:Nat) (best l:List Cell),jc e best->(∀a∈l,a.aV=e)->p4 best l<=k->k<=16000000->
  dk prog (aF f27 1) (uu (g.nodes.map Node.e) g.bg g.cap (l.map Cell.e) (best.map Cell.e)) (.exit 2) (FM ((ql g k best l).map Cell.e))
 | 0,best,l,_,_,aT,_=>by
  have ak:l=[]:=rm (by have:=Md (e:=e) (best:=best) (l:=l);omega);subst ak;exact .last (di 2) (Ma ⟨rfl,aj⟩)
 | k+1,best,[],_,_,_,_=>.last (di 2) (Ma ⟨rfl,aj⟩)
 | k+1,best,x::l,ah,ak,aT,l4=>by
  have ae:=ak x (by simp);obtain⟨J,U,_,aJ⟩:=yN (g:=g) ah ae;have ad:=KU (g:=g) (l:=l) ah ae;have hle:=Md (e:=e) (best:=best) (l:=x::l);rw[du]at hle;have qp:=KS ah;have dw:=Me g e ag k (gX g best x).1 (l++(gX g best x).2) J (fun a aC=>by
   rcases hA.1 aC with aC | aC
   ·exact ak a (by simp[aC])
   exact U a aC) (by omega) (by omega)
  have s:=ab0 g best x ag (by omega);refine .more (uI (fun q=>uu (g.nodes.map Node.e) g.bg g.cap q ((gX g best x).1.map Cell.e)) (abR ⟨e3 (by simp<;>omega),by omega,by simp<;>omega,rfl,s,by simp,by simp<;>omega,by simp,by simp<;>omega,by simp<;>omega,?_,by simp<;>omega,by simp<;>omega,bW _ Cell.flat _,aj⟩) ?_) dw
  ·simp only[gE,List.drop_succ_cons,rn];rw[sY (by simp)];exact bW _ Cell.flat l
  rw[List.nil_append];exact adZ x l _
theorem ab1(g:bz)(e:Int)(xs:List aQ)(ak:xs.length<=8388608):dk prog (aF f27 0) (oN e (xs.map aQ.e) 0 [] (g.nodes.map Node.e) g.bg g.cap) (.exit 0) (FL ((h8 e xs).map Cell.e) (g.nodes.map Node.e) g.bg g.cap):=by
 let p:=fun r:aQ=>r.bl.aV==e&&c8 r
 have aK:(xs.filter p).map (cellsOf e)=h8 e xs:=by simp only[h8,il,List.filter_filter,p];congr 2;funext r;rw[Bool.and_comm]
 have l:=gx (P:=prog) (c:=(aF f27 0)) (di 0) xs.length (fun i:Nat=>oN e (xs.map aQ.e) i ((((xs.take i).filter p).map (cellsOf e)).map Cell.e) (g.nodes.map Node.e) g.bg g.cap) (fun i hi=>by
  obtain⟨a,aC⟩:=cT hi;have bn:=pO p xs i;have ad:=q3 p aC;have c:=zb a;cases J:a.bl.aV==e with
  | false=>
   have hp:p a=false:=by simp only[p,J,Bool.false_and]
   rw[aZ (by simp[hp]),ja]at ad;rw[ad];exact abP ⟨dr hi,c1,dh hi,c2 aQ.e aC,J,eN hi ak,aj⟩
  | true=>
   cases U:c8 a with
   | false=>
    have hp:p a=false:=by simp only[p,J,U,Bool.and_false]
    rw[aZ (by simp[hp]),ja]at ad;rw[U]at c;rw[ad];exact abO ⟨dr hi,c1,dh hi,c2 aQ.e aC,J,c,rfl,eN hi ak,aj⟩
   | true=>
    have hp:p a=true:=by simp only[p,J,U,aeA]
    rw[bb hp]at ad;rw[U]at c;rw[ad,kg,kg];exact abN ⟨dr hi,c1,dh hi,c2 aQ.e aC,J,c,rfl,by simp<;>omega,by simp<;>omega,dt (cellsOf e a).flat,eN hi ak,aj⟩) (abQ ⟨fb,aj⟩)
 rw[jS,aK]at l;exact l
theorem ab2(g:bz)(e:Int)(xs:List aQ)(ag:g.sz<=8388608)(ak:xs.length<=8388608):aA 27 [.agg g.e,.one (I e),.one (.aa 5 (xs.map aQ.e))] [.one (.aa 4 ((nM g e xs).map Cell.e))]:=by
 have J:=aaS e xs;exact abS ⟨ab1 g e xs ak,Me g e ag _ [] (h8 e xs) (Fu e) yO (Nat.le_of_eq (KV)) (by unfold rounds;omega),aj⟩
def wL(g:bz)(e:Int)(xs:List aQ):List Cell:=pP g (nM g e xs)
theorem ab3(g:bz)(e:Int)(xs:List aQ):(nM g e xs).length<=8388608:=by
 have:=KS (KW g e xs);omega
theorem ab4(g:bz)(e:Int)(xs:List aQ)(ag:g.sz<=8388608)(ak:xs.length<=8388608):aA 16 [.agg g.e,.one (I e),.one (.aa 5 (xs.map aQ.e))] [.one (.aa 4 ((wL g e xs).map Cell.e))]:=
 abT ⟨ab2 g e xs ag ak,LI g _ ag (ab3 g e xs),aj⟩
end Go.Proofs.Ytdchjefneblpgaa
namespace Go.Proofs.Ytdchjefneblpgaa
open Go.Sx Go.RowKit Go.Proofs.Try
def gO(g:bz)(x:Cell):List Cell:=match dd g x.op with
 | none=>[]
 | some n=>if (bL n x.key x.val).2.2=true then uD n x (bL n x.key x.val).1 (bL n x.key x.val).2.1 else []
def eX(H:Cell->Prop)(x:Cell):Prop:=∃a,H a/\ci x a=true/\a.val<=x.val
def Fits(g:bz)(x:Cell):Prop:=(∃n,dd g x.op=some n)/\c9 x.key x.val=true/\0<=x.aV/\x.aV<=3
theorem zM(x:Cell):ci x x=true:=jQ.2 ⟨rfl,rfl,rfl⟩
variable{x y:Cell}
theorem FN(h:ci x y=true):ci y x=true:=by
 obtain⟨J,U,ax⟩:=jQ.1 h;exact jQ.2 ⟨J.symm,U.symm,ax.symm⟩
theorem q8{z:Cell}(h:ci x y=true)(k:ci y z=true):ci x z=true:=by
 obtain⟨J,U,ax⟩:=jQ.1 h;obtain⟨cf,bM,fy⟩:=jQ.1 k;exact jQ.2 ⟨cf.trans J,bM.trans U,fy.trans ax⟩
variable{H:Cell->Prop}
theorem eX.self(h:H x):eX H x:=⟨x,h,zM x,Int.le_refl _⟩
theorem eX.mono{K:Cell->Prop}(h:eX H x)(aT:∀a,H a->eX K a):eX K x:=by
 obtain⟨a,aC,J,U⟩:=h;obtain⟨b,ah,cf,bM⟩:=aT a aC;exact⟨b,ah,q8 J cf,uO bM U⟩
theorem eX.less(h:eX H x)(ad:ci y x=true)(a8:x.val<=y.val):eX H y:=by
 obtain⟨a,aC,J,U⟩:=h;exact⟨a,aC,q8 ad J,uO U a8⟩
theorem ab5{n:Node}{k v:Int}(aR:av n=true)(hi:c9 k v=true):c9 (bL n k v).1 (bL n k v).2.1=true:=by
 have jj:bh n=true:=by
  unfold av at aR;simp only[b0]at aR;exact aR.1.1.1.1
 unfold bL;rw[aR,hi];simp only[Bool.and_self,fZ];simp only[c9,af,b0,cF]at hi ⊢;split
 ·rename_i U;unfold bh at jj;rw[bb U]at jj;simp only[af,b0,cF]at jj;dsimp only[less];split<;>omega
 split
 ·rename_i U aJ;unfold bh at jj;rw[aZ U,aZ (by omega),bb aJ]at jj;simp only[af,b0,cF]at jj;dsimp only;rw[Int.tmod_eq_emod_of_nonneg (by omega)];omega
 split
 ·exact hi
 exact hi
variable{g:bz}
theorem FO{a:Cell}(ag:cz g=true)(ae:c9 x.key x.val=true)(aC:c9 a.key a.val=true)(ad:ci x a=true)(a8:a.val<=x.val):∀y∈gO g x,∃z∈gO g a,ci y z=true/\z.val<=y.val:=by
 obtain⟨J,U,ax⟩:=jQ.1 ad;intro y a7;unfold gO at a7 ⊢;rw[J];cases aR:dd g x.op with
 | none=>rw[aR]at a7;cases a7
 | some n=>
  rw[aR]at a7;dsimp only at a7 ⊢;have nk:=wJ ag aR;rw[ax]at aC ⊢;have key:(bL n x.key a.val).1=(bL n x.key x.val).1/\(bL n x.key a.val).2.1<=(bL n x.key x.val).2.1/\(bL n x.key a.val).2.2=(bL n x.key x.val).2.2:=by
   unfold bL;rw[nk,ae,aC];simp only[Bool.and_self,fZ];split
   ·refine⟨rfl,?_,rfl⟩;dsimp only[less];split<;>split<;>omega
   split
   ·exact⟨rfl,a8,rfl⟩
   split
   ·exact⟨rfl,a8,rfl⟩
   exact⟨rfl,a8,rfl⟩
  obtain⟨cf,bM,fy⟩:=key;rw[cf,fy];split at a7
  ·rename_i iR;rw[bb iR];obtain⟨o,aM,rfl⟩:=eC.1 a7;refine⟨⟨o,a.aV,(bL n x.key x.val).1,(bL n x.key a.val).2.1⟩,eC.2 ⟨o,aM,rfl⟩,jQ.2 ⟨rfl,U,rfl⟩,bM⟩
  cases a7
theorem ab6(ag:cz g=true){op:Int}{n:Node}(aR:dd g op=some n):∀o∈n.outs,∃m,dd g o=some m:=by
 intro o aM;have nk:=wJ ag aR;have bX:0<=o:=by
  unfold av at nk;simp only[b0]at nk;have:=zd nk.2 aM;simp only[af,cF]at this;exact this.1
 have ah:=ag;simp only[cz,b0,gD]at ah;have:=ue ah.2 op.toNat n (MF aR).2;rw[cP]at this;simp only[gM,jU,hP]at this;have he:=this.2 o aM;unfold eV at he;simp only[mD,cF,not_or,Int.not_le]at he;unfold dd;rw[bb bX];exact cT (by omega)
theorem EX(ag:cz g=true)(ae:Fits g x):∀y∈gO g x,Fits g y:=by
 intro y a7;obtain⟨⟨n,aR⟩,hi,he⟩:=ae;unfold gO at a7;rw[aR]at a7;dsimp only at a7;split at a7
 ·obtain⟨o,aM,rfl⟩:=eC.1 a7;exact⟨ab6 ag aR o aM,ab5 (wJ ag aR) hi,he⟩
 cases a7
structure s3 (g:bz) (ins best l:List Cell):Prop where
 ins:∀x∈ins,eX (fun a=>a∈best\/a∈l) x
 closed:∀x∈best,∀y∈gO g x,eX (fun a=>a∈best\/a∈l) y
 fit:∀x,x∈best\/x∈l->Fits g x
theorem Mf{xs:List Cell}(h:(dO xs x).2=true)(z:Cell):z∈(dO xs x).1<->z=x\/(z∈xs/\ci x z=false):=by
 have:=ME (k:=8) (xs:=xs) (u:=x) (z:=z) (.inr (.inr rfl)) (by unfold bZ;rw[aZ (by decide),bb (.inr rfl)];exact h);unfold bZ at this;rw[aZ (by decide),bb (.inr rfl)]at this;rw[this];exact⟨fun q=>q.imp id fun q=>⟨q.1,q.2 (by decide)⟩,fun q=>q.imp id fun q=>⟨q.1,fun _=>q.2⟩⟩
theorem Mg(ag:cz g=true){best:List Cell}(ae:Fits g x):
  ((dO best x).2=false/\gX g best x=(best,[]))\/((dO best x).2=true/\gX g best x=((dO best x).1,gO g x)):=by
 obtain⟨⟨n,aR⟩,hi,he⟩:=ae;have ar:af x.aV 0 3=true:=by simp only[af,cF];exact he
 unfold gX gO;rw[aR];dsimp only;rw[ag,ar,hi];simp only[Bool.and_self,fZ];cases ah:(dO best x).2 with
 | false=>exact .inl ⟨rfl,by rw[yM ah];simp⟩
 | true=>exact .inr ⟨rfl,by simp⟩
theorem s3.step(ag:cz g=true){ins best l:List Cell}(h:s3 g ins best (x::l)):s3 g ins (gX g best x).1 (l++(gX g best x).2):=by
 have ae:=h.fit x (.inr (fk ..));rcases Mg ag (best:=best) ae with⟨ah,e⟩ | ⟨ah,e⟩
 ·rw[e];obtain⟨a,aC,cf,bM⟩:=(FA best x).1 ah;have up:∀z,(z∈best\/z∈x::l)->eX (fun a=>a∈best\/a∈l++[]) z:=fun z aL=>by
   rcases aL with aL | aL
   ·exact .self (.inl aL)
   rcases dj.1 aL with rfl | aL
   ·exact⟨a,.inl aC,cf,bM⟩
   exact .self (.inr (by simpa using aL))
  exact⟨fun z aL=>(h.ins z aL).mono up,fun z aL y a7=>(h.closed z aL y a7).mono up,fun z aL=>h.fit z (aL.imp id fun q=>eQ _ (by simpa using q))⟩
 rw[e];have mem:=Mf ah;have nb:∀a∈best,ci x a=true->x.val<=a.val:=fun a aC ad=>by
  refine Classical.byContradiction fun a8=>?_
  have:=(FA best x).2 ⟨a,aC,ad,by omega⟩;rw[ah]at this;cases this
 have up:∀z,(z∈best\/z∈x::l)->eX (fun a=>a∈(dO best x).1\/a∈l++gO g x) z:=fun z aL=>by
  rcases aL with aL | aL
  ·by_cases ad:ci x z=true
   ·exact⟨x,.inl ((mem x).2 (.inl rfl)),FN ad,nb z aL ad⟩
   exact .self (.inl ((mem z).2 (.inr ⟨aL,by simpa using ad⟩)))
  rcases dj.1 aL with rfl | aL
  ·exact .self (.inl ((mem z).2 (.inl rfl)))
  exact .self (.inr (gl _ aL))
 refine⟨fun z aL=>(h.ins z aL).mono up,fun z aL y a7=>?_,fun z aL=>?_⟩
 ·rcases (mem z).1 aL with rfl | ⟨aL,_⟩
  ·exact .self (.inr (gQ _ a7))
  exact (h.closed z aL y a7).mono up
 rcases aL with aL | aL
 ·rcases (mem z).1 aL with rfl | ⟨aL,_⟩
  ·exact ae
  exact h.fit z (.inl aL)
 rcases hA.1 aL with aL | aL
 ·exact h.fit z (.inr (eQ _ aL))
 exact EX ag ae z aL
variable{e:Int}
theorem Mh(ag:cz g=true){ins:List Cell}:∀(k:Nat) (best l:List Cell),jc e best->(∀a∈l,a.aV=e)->p4 best l<=k->s3 g ins best l->s3 g ins (ql g k best l) []
 | 0,best,l,_,_,aT,h=>by
  have:l=[]:=by
   unfold p4 at aT;exact List.length_eq_zero_iff.1 (by omega)
  subst this;exact h
 | k+1,best,[],_,_,_,h=>h
 | k+1,best,x::l,ah,ak,aT,h=>by
  have og:=ak x (fk ..);obtain⟨J,U,_,_⟩:=yN (g:=g) ah og;have bH:=KU (g:=g) (l:=l) ah og;refine Mh ag k _ _ J (fun a aC=>?_) (by omega) (h.step ag);rcases hA.1 aC with aC | aC
  ·exact ak a (eQ _ aC)
  exact U a aC
variable{xs:List aQ}
theorem EY(ag:cz g=true)(he:0<=e/\e<=3):∀x∈h8 e xs,Fits g x:=by
 intro x ae;simp only[h8,eC,List.mem_filter]at ae;obtain⟨r,⟨_,ar⟩,rfl⟩:=ae;have ak:1<=(g.nodes.length:Int):=by
  simp only[cz,b0,af,cF]at ag;omega
 refine⟨?_,MG ar,he⟩;change ∃n,dd g 0=some n;unfold dd;rw[bb (by decide)];exact cT (by change (0:Int).toNat<_;omega)
theorem abg(ag:cz g=true)(he:0<=e/\e<=3)(xs:List aQ):s3 g (h8 e xs) (nM g e xs) []:=
 Mh ag _ [] (h8 e xs) (Fu e) yO (Nat.le_of_eq (KV)) ⟨fun x ae=>.self (.inr ae),fun x ae=>(by cases ae),fun x ae=>EY ag he x (ae.resolve_left (by simp))⟩
theorem Mi(ag:cz g=true)(bn:∀x,H x->c9 x.key x.val=true)(ai:∀x,H x->∀y∈gO g x,eX H y):∀(k:Nat) (best l:List Cell),(∀x,x∈best\/x∈l->Fits g x/\eX H x)->∀x∈ql g k best l,eX H x
 | 0,best,l,h,x,ae=>(h x (.inl ae)).2
 | k+1,best,[],h,x,ae=>(h x (.inl ae)).2
 | k+1,best,a::l,h,x,ae=>by
  have aC:=h a (.inr (fk ..));refine Mi ag bn ai k (gX g best a).1 (l++(gX g best a).2) (fun z aL=>?_) x ae;rcases Mg ag (best:=best) aC.1 with⟨_,e⟩ | ⟨ah,e⟩
  ·rw[e]at aL;exact h z (aL.imp id fun q=>eQ _ (by simpa using q))
  rw[e]at aL;rcases aL with aL | aL
  ·rcases (Mf ah z).1 aL with rfl | ⟨aL,_⟩
   ·exact aC
   exact h z (.inl aL)
  rcases hA.1 aL with aL | aL
  ·exact h z (.inr (eQ _ aL))
  refine⟨EX ag aC.1 z aL,?_⟩;obtain⟨b,dX,cf,bM⟩:=aC.2;obtain⟨w,hw,w1,ke⟩:=FO ag aC.1.2.1 (bn b dX) cf bM z aL;exact (ai b dX w hw).less w1 ke
theorem abh(ag:cz g=true)(he:0<=e/\e<=3)(bn:∀x,H x->c9 x.key x.val=true)(ai:∀x,H x->∀y∈gO g x,eX H y)(hi:∀x∈h8 e xs,eX H x):∀x∈nM g e xs,eX H x:=
 Mi ag bn ai _ [] _ fun x ae=>⟨EY ag he x (ae.resolve_left (by simp)),hi x (ae.resolve_left (by simp))⟩
theorem Mj{xs:List Cell}(x:Cell)(h:xs.Pairwise fun a b=>eH a b<0):(dO xs x).1.Pairwise fun a b=>eH a b<0:=by
 unfold dO;split
 ·exact h
 exact L2 x (h.filter _)
theorem Mk:∀(k:Nat) (best l:List Cell),(best.Pairwise fun a b=>eH a b<0)->(ql g k best l).Pairwise fun a b=>eH a b<0
 | 0,_,_,h=>h
 | _+1,_,[],h=>h
 | k+1,best,x::l,h=>by
  refine Mk k _ _ ?_;unfold gX;split
  ·exact h
  split
  ·exact Mj x h
  exact h
theorem abi:(nM g e xs).Pairwise fun a b=>eH a b<0:=Mk _ _ _ List.Pairwise.nil
theorem Ml:∀{xs:List Cell},jc e xs->∀{a b:Cell},a∈xs->b∈xs->ci a b=true->a=b
 | [],_,_,_,aC,_,_=>by cases aC
 | x::xs,h,a,b,aC,ah,ad=>by
  have aR:=h.apart;rw[gE,List.nodup_cons]at aR;have bH:jc e xs:=⟨fun b ah=>h.lO b (eQ _ ah),aR.2⟩
  have aa:=(yL (h.lO b ah) (h.lO a aC)).1 ad;rcases dj.1 aC with rfl | rO
  ·rcases dj.1 ah with rfl | dv
   ·rfl
   exact absurd (eC.2 ⟨b,dv,aa⟩) aR.1
  rcases dj.1 ah with rfl | dv
  ·exact absurd (eC.2 ⟨a,rO,aa.symm⟩) aR.1
  exact Ml bH rO dv ad
end Go.Proofs.Ytdchjefneblpgaa
namespace Go.Proofs.Ytdchjefneblpgaa
open Go.Sx Go.RowKit Go.Proofs.Try
variable{l:eK}
theorem Mm:oL l=true<->af l.cap 1 4=true/\af l.jY 0 l.cap=true/\af l.back 0 l.cap=true/\l.jY+l.back+l.queue.length=l.cap/\af l.kd 0 1000000000=true/\0<=l.hW/\l.hW=l.kd-l.queue.length/\(l.queue.any fun r=>!c8 r)=false:=by
 simp only[oL,b0,gD,fR,cF,and_assoc]
theorem Mn{g:bz}{i:Nat}:sl g i l=false<->oL l=true/\l.cap=g.cap/\jt g l.queue=true/\((i:Int).tdiv g.bg=(i:Int).tmod g.bg->l.queue=[]):=by
 simp only[sl,jU,sW,bne_eq_false_iff_eq,Bool.and_eq_false_imp,fR,mG];refine and_congr_right fun _=>and_congr_right fun _=>and_congr_right fun _=>imp_congr_right fun _=>?_
 cases l.queue with
 | nil=>simp
 | cons a q=>simp
theorem abj{g:bz}{i:Nat}(h:sl g i l=false)(ad:(ju l).2.2=true):sl g i (ju l).1=false/\lD g (ju l).2.1=false:=by
 obtain⟨J,U,ax,aJ⟩:=Mn.1 h;obtain⟨cf,bM,fy,oj,Q9,gd,Io,CQ⟩:=Mm.1 J;unfold ju at ad ⊢;rw[bb J]at ad ⊢;split
 ·rename_i aw;rw[aw]at ad;cases ad
 rename_i r q aw;rw[aw]at ax CQ oj Io aJ;rw[aax]at ax;rw[AF,jU]at CQ;simp only[du]at oj Io;refine⟨Mn.2 ⟨Mm.2 ⟨cf,bM,?_,?_,Q9,?_,?_,CQ.2⟩,U,ax.2,fun e=>absurd (aJ e) (by simp)⟩,ax.1⟩
 ·simp only[af,cF]at bM fy ⊢;omega
 ·dsimp only;omega
 ·dsimp only;omega
 dsimp only;omega
theorem abk{n:Int}{t:hc}:wK n t=false<->(0<=t.place/\t.place<=n-1)/\(t.going=false->t.place=0)/\(-1000000<=t.sum/\t.sum<=1000000):=by
 simp only[wK,af,jU,sW,cF,Bool.and_eq_false_imp,gD,bne_eq_false_iff_eq]
theorem abl{n e:Int}{b:Bool}{m:Nat}(hm:(m:Int)=n-1)(he:af e 0 3=true):(qL m e b).any (zJ n)=false:=by
 rw[hP];intro x ae;simp only[qL,eC,List.mem_range]at ae;obtain⟨k,aT,rfl⟩:=ae;have J:af ((k:Int)+1) 0 (n-1)=true:=by simp only[af,cF];omega
 simp only[zJ,J,he,uL,Bool.or_false,oT,not_false_eq_true]
theorem zN{α:Type}{sz:α->Nat}{y:α}(x:α):∀{xs:List α} {i:Nat},xs[i]?=some y->hx sz (xs.set i x)+sz y=hx sz xs+sz x
 | [],i,h=>by simp at h
 | a::xs,0,h=>by
  obtain rfl:a=y:=by simpa using h
  simp only[hx,List.set_cons_zero,du,gE,qa];omega
 | a::xs,i+1,h=>by
  have:=zN (sz:=sz) x (xs:=xs) (i:=i) (by simpa using h);simp only[hx,List.set_cons_succ,du,gE,qa]at this ⊢;omega
end Go.Proofs.Ytdchjefneblpgaa
namespace Go.Proofs.Ytdchjefneblpgaa
open Go.Sx Go.RowKit Go.Proofs.Try
variable{c:cQ}
theorem o1.jw{i:Int}{l:eK}(h:o1 c)(ak:l.hW<=9223372036854775807):o1 (jw c i l):=by
 intro x ae;rcases oV ae with J | rfl
 ·exact h x J
 exact ak
theorem o1.at{i:Int}{x:eK}(h:nv c i=some x)(hw:o1 c):x.hW<=9223372036854775807:=hw _ (h7 (FE h).2.2)
structure qc (c d:cQ):Prop where
 cY:d.cY=c.cY
 hW:o1 c->o1 d
 FZ:d.bg.length=c.bg.length
theorem qc.rfl:qc c c:=⟨Eq.refl _,id,Eq.refl _⟩
theorem qc.hl{d:cQ}(J:d.cY=c.cY)(U:d.hl=c.hl)(ax:d.bg.length=c.bg.length:=by simp[setW,p1,iY,jw,told,io]):qc c d:=⟨J,fun h x ae=>h x (U▸ae),ax⟩
theorem qc.trans{d e:cQ}(h:qc c d)(k:qc d e):qc c e:=⟨k.cY.trans h.cY,fun x=>k.hW (h.hW x),k.FZ.trans h.FZ⟩
end Go.Proofs.Ytdchjefneblpgaa
namespace Go.Proofs.Ytdchjefneblpgaa
open Go.Sx Go.RowKit Go.Proofs.Try
inductive Step (c:cQ) (p:n2):cQ->Prop
 | work (x:c') (r:aQ) (q:List aQ) (aT:p.kind=1) (ae:hy c p.a=some x) (ad:x.iq=[]) (aw:x.queue=r::q):
   Step c p (setW c p.a ⟨q,(cO c.cY x.cells r).2.1,x.hI,(cO c.cY x.cells r).1,x.gi,x.ey,(if dn c.cY r then x.cD.set r.bl.aV.toNat true else x.cD),x.iz⟩)
 | input (x:c') (r:aQ) (t:List aQ) (aT:p.kind=2) (ae:hy c p.a=some x) (ad:x.iq=[]) (aw:x.queue=[]) (hi:x.hI=r::t):
   Step c p (setW c p.a ⟨[r],[],t,x.cells,x.gi,x.ey,x.cD,x.iz⟩)
 | eF (x:c') (r:aQ) (t:List aQ) (aT:p.kind=3) (ae:hy c p.a=some x) (ad:x.iq=r::t) (aM:sk r.key c.cY.bg=p.a):
   Step c p (setW c p.a (kept (uq x t) r))
 | send (x:c') (r:aQ) (t:List aQ) (l:eK) (aT:p.kind=3) (ae:hy c p.a=some x) (ad:x.iq=r::t) (aM:sk r.key c.cY.bg≠p.a)
   (ak:nv c (kb c.cY p.a (sk r.key c.cY.bg))=some l) (h:(oM l r).2=true):
   Step c p (setW (jw c (kb c.cY p.a (sk r.key c.cY.bg)) (oM l r).1) p.a (zK (uq x t) r.bl.aV))
 | take (l:eK) (x:c') (aT:p.kind=4) (jj:p.a≠p.b) (ak:nv c (kb c.cY p.a p.b)=some l) (ae:hy c p.b=some x) (h:(ju l).2.2=true):
   Step c p (setW (jw c (kb c.cY p.a p.b) (ju l).1) p.b (ur x (ju l).2.1))
 | OU (l:eK) (aT:p.kind=5) (jj:p.a≠p.b) (ak:nv c (kb c.cY p.a p.b)=some l) (h:(mn l).2=true):
   Step c p (jw c (kb c.cY p.a p.b) (mn l).1)
 | token (t:hc) (x ri:c') (aT:p.kind=6) (he:af p.a 0 3=true) (bX:hy c 0=some ri) (ay:nN ri p.a=false) (bH:k0 c p.a=some t) (ae:hy c t.place=some x) (h:(lF c p.a t x).2=true):
   Step c p (lF c p.a t x).1
 | PQ (k:Nat) (n:jd) (x:c') (aT:p.kind=7) (aR:c.news[k]?=some n) (ay:n.dest=p.a) (ae:hy c p.a=some x):
   Step c p (p1 (setW c p.a (n' x n)) (cutAt c.news k))
theorem abm{l:eK}{r:aQ}(h:(oM l r).2=true):oL l=true/\l.jY≠0/\l.kd<1000000000/\(oM l r).1=⟨l.cap,l.queue++[r],l.jY-1,l.back,l.kd+1,l.hW⟩:=by
 unfold oM at h ⊢;split
 ·rename_i ai;simp only[b0,bne_iff_ne,ki,cF]at ai;exact⟨ai.1.1.1,ai.1.2,ai.2,rfl⟩
 rename_i ai;rw[aZ ai]at h;cases h
theorem abn{l:eK}(h:(ju l).2.2=true):oL l=true/\∃r q,l.queue=r::q/\(ju l).2.1=r/\(ju l).1=⟨l.cap,q,l.jY,l.back+1,l.kd,l.hW+1⟩:=by
 unfold ju at h ⊢;split
 ·rename_i ai;rw[bb ai]at h;refine⟨ai,?_⟩;cases aw:l.queue with
  | nil=>rw[aw]at h;cases h
  | cons r q=>exact⟨r,q,rfl,rfl,rfl⟩
 rename_i ai;rw[aZ ai]at h;cases h
theorem abo(l:eK):((mn l).2=false/\(mn l).1=l)\/((mn l).2=true/\oL l=true/\l.back≠0/\(mn l).1=⟨l.cap,l.queue,l.jY+1,l.back-1,l.kd,l.hW⟩):=by
 unfold mn;split
 ·rename_i ai;simp only[b0,bne_iff_ne,ki]at ai;exact .inr ⟨rfl,ai.1,ai.2,rfl⟩
 exact .inl ⟨rfl,rfl⟩
theorem Mo (c : cQ) (e : Int) (t : hc) (x : c') : ((lF c e t x).2 = false /\ (lF c e t x).1 = c) \/ ((lF c e t x).2 = true /\ lE x e = true /\
    ((t.going = false /\ (lF c e t x).1 = setW (iY c e ⟨true, (c.bg.length : Int) - 1, 0, false, x.cD.getD e.toNat false⟩) t.place (io x e)) \/
     (t.going = true /\ 0 < t.place /\ (lF c e t x).1 = setW (iY c e ⟨true, t.place - 1, t.sum + x.gi.getD e.toNat 0, t.ey || x.ey.getD e.toNat false, t.dn || x.cD.getD e.toNat false⟩) t.place (io x e)) \/
     (t.going = true /\ ¬ 0 < t.place /\ (t.ey = false /\ x.ey.getD e.toNat false = false /\ t.sum + x.gi.getD e.toNat 0 = 0) /\
       (lF c e t x).1 = p1 (setW (iY c e ⟨false, t.place, t.sum, t.ey, t.dn⟩) 0 (told x e (t.dn || x.cD.getD e.toNat false))) (c.news ++ qL (c.bg.length - 1) e (t.dn || x.cD.getD e.toNat false))) \/
     (t.going = true /\ ¬ 0 < t.place /\ ¬ (t.ey = false /\ x.ey.getD e.toNat false = false /\ t.sum + x.gi.getD e.toNat 0 = 0) /\ (lF c e t x).1 = iY c e ⟨false, t.place, t.sum, t.ey, t.dn⟩))) := by
  unfold lF;split
  case isFalse => exact .inl ⟨rfl, rfl⟩
  rename_i hp;cases ag : t.going with
  | false => exact .inr ⟨rfl, hp, .inl ⟨rfl, rfl⟩⟩
  | true =>
    rw [aZ (by simp)];split
    · rename_i bX;split
      · exact .inr ⟨rfl, hp, .inr (.inl ⟨rfl, bX, rfl⟩)⟩
      exact .inl ⟨rfl, rfl⟩
    rename_i bX;split
    · rename_i ai;simp only [b0, gD, fR] at ai;exact .inr ⟨rfl, hp, .inr (.inr (.inl ⟨rfl, bX, ⟨ai.1.1, ai.1.2, ai.2⟩, rfl⟩))⟩
    rename_i ai;refine .inr ⟨rfl, hp, .inr (.inr (.inr ⟨rfl, bX, fun aR => ai ?_, rfl⟩))⟩;simp only [b0, gD, fR];exact ⟨⟨aR.1, aR.2.1⟩, aR.2.2⟩
end Go.Proofs.Ytdchjefneblpgaa
namespace Go.Proofs.Ytdchjefneblpgaa
open Go.Sx Go.RowKit Go.Sort Go.Proofs.Try
def z1{α:Type}(f:α->Nat)(xs:List α):Nat:=(xs.map f).sum
theorem abp{α:Type}{f:α->Nat}{y:α}(x:α){xs:List α}{i:Nat}(h:xs[i]?=some y):z1 f (xs.set i x)+f y=z1 f xs+f x:=by
 have:=zN (sz:=f) x h;simp only[hx,kj]at this;unfold z1;omega
