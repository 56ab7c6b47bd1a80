import Derived.Test.YtdchjefneblpgaaGreatT2
import Derived.Test.YtdchjefneblpgaaGreatGN
import Derived.Sort.Statements
import Derived.Shelf.SlSortCmp.Insertion
import Derived.Test.YtdchjefneblpgaaGreatT5
import Derived.Test.YtdchjefneblpgaaGreatR35
import Derived.Test.YtdchjefneblpgaaGreatGD
set_option linter.unusedVariables false
set_option linter.unusedSimpArgs false
namespace Go.Proofs.YtdchjefneblpgaaGreat
open Go.Sx Go.RowKit Go.Proofs.Tryz
def aw(n c5 hi:Int):Bool:=decide (c5<=n/\n<=hi)
theorem iw(n c5 hi:Int):av 168 [.one (I n),.one (I c5),.one (I hi)] [.one (B (aw n c5 hi))]:=by
 by_cases h:c5<=n
 ·have e:aw n c5 hi=decide (n<=hi):=by simp[aw,h]
  rw[e];exact ayf ⟨by simp only[cc];omega,ad⟩
 rw[show aw n c5 hi=false by simp[aw,h]];exact ayg ⟨by simp only[l4];omega,ad⟩
theorem gp(n c5 hi:Int)(r:Bool)(h:aw n c5 hi=r):av 168 [.one (I n),.one (I c5),.one (I hi)] [.one (B r)]:=h▸iw n c5 hi
theorem lB(n c5 hi:Int):av 190 [.one (I n),.one (I c5),.one (I hi)] [.one (B (aw n c5 hi))]:=by
 by_cases h:c5<=n
 ·have e:aw n c5 hi=decide (n<=hi):=by simp[aw,h]
  rw[e];exact ayN ⟨by simp only[cc];omega,ad⟩
 rw[show aw n c5 hi=false by simp[aw,h]];exact aye ⟨by simp only[l4];omega,ad⟩
theorem hX{n c5 hi:Int}(r:Bool)(h:aw n c5 hi=r):av 190 [.one (I n),.one (I c5),.one (I hi)] [.one (B r)]:=h▸lB n c5 hi
def hG(n c5 hi:Int):Int:=if hi<c5 then c5 else if n<c5 then c5 else if hi<n then hi else n
theorem Hj(n c5 hi:Int):av 130 [.one (I n),.one (I c5),.one (I hi)] [.one (I (hG n c5 hi))]:=by
 unfold hG;by_cases h1:hi<c5
 ·rw[bh h1];exact azb ⟨by simpa using h1,ad⟩
 rw[bq h1];by_cases U:n<c5
 ·rw[bh U];exact azc ⟨by simpa using h1,by simpa using U,ad⟩
 rw[bq U];by_cases aA:hi<n
 ·rw[bh aA];exact azd ⟨by simpa using h1,by simpa using U,by simpa using aA,ad⟩
 rw[bq aA];exact ayo ⟨by simpa using h1,by simpa using U,by simpa using aA,ad⟩
theorem NG(n c5 hi:Int):av 167 [.one (I n),.one (I c5),.one (I hi)] [.one (I (hG n c5 hi))]:=by
 unfold hG;by_cases h1:hi<c5
 ·rw[bh h1];exact ayp ⟨by simpa using h1,ad⟩
 rw[bq h1];by_cases U:n<c5
 ·rw[bh U];exact ayq ⟨by simpa using h1,by simpa using U,ad⟩
 rw[bq U];exact ayr ⟨by simpa using h1,by simpa using U,ad⟩
theorem ay.flat(r:ay):∀d∈r.e,∃x,d=.v x:=by
 intro d aF;simp only[ay.e,dQ,qW,or_false]at aF;rcases aF with rfl | rfl | rfl | rfl | rfl<;>exact⟨_,rfl⟩
theorem Cell.flat(r:Cell):∀d∈r.e,∃x,d=.v x:=by
 intro d aF;simp only[Cell.e,dQ,qW,or_false]at aF;rcases aF with rfl | rfl | rfl | rfl<;>exact⟨_,rfl⟩
theorem b6.flat(r:b6):∀d∈r.e,∃x,d=.v x:=by
 intro d aF;simp only[b6.e,dQ,qW,or_false]at aF;rcases aF with rfl | rfl | rfl<;>exact⟨_,rfl⟩
theorem hR.flat(r:hR):∀d∈r.e,∃x,d=.v x:=by
 intro d aF;simp only[hR.e,dQ,qW,or_false]at aF;rcases aF with rfl | rfl<;>exact⟨_,rfl⟩
theorem s0{α:Type}(p:α->Bool)(xs:List α)(i:Nat):((xs.take i).filter p).length<=i:=
 mW (l3 ..) (by simp;omega)
theorem xY(a r:Cell):(a.op==r.op&&(a.aU==r.aU&&(a.key==r.key&&a.val==r.val)))=decide (a=r):=by
 obtain⟨o,e,k,v⟩:=a;obtain⟨rJ,e',cf,la⟩:=r;rw[Bool.eq_iff_iff];simp only[b9,iL,cc,Cell.mk.injEq]
theorem Wk(a r:Cell):(r.op==a.op&&(r.aU==a.aU&&(r.key==a.key&&r.val==a.val)))=decide (a=r):=by
 rw[xY r a];exact decide_eq_decide.2 ⟨Eq.symm,Eq.symm⟩
theorem u0{P:Program}{c:Code}{st:aD}{e:hA}{α:Type}(f:α->aD){l hb:α}(h:gi P c st e (f l))(aj:l=hb):gi P c st e (f hb):=aj▸h
theorem afp{P:Program}{f:Nat}{args:List cL}{k:Nat}{l hb:List (List D)}(h:ji P f args [.one (.J k l)])(aj:l=hb):ji P f args [.one (.J k hb)]:=aj▸h
theorem Ac{α β:Type}(f:α->List β)(c:Nat)(h:∀a,(f a).length<=c):∀xs:List α,(xs.flatMap f).length<=xs.length*c
 | []=>by simp
 | a::xs=>by
  have h1:=h a;have U:=Ac f c h xs;simp only[List.flatMap_cons,lH,fO,hQ,Nat.one_mul];omega
theorem dc{p:Prop}[Decidable p](h:p):decide p=true:=o4 h
theorem dE{p:Prop}[Decidable p](h:¬p):decide p=false:=p7 h
end Go.Proofs.YtdchjefneblpgaaGreat
namespace Go.Proofs.YtdchjefneblpgaaGreat
open Go.Sx Go.RowKit Go.Proofs.Tryz
def kk(a b:Int):Int:=if a<b then -1 else if b<a then 1 else 0
def sT(l:List Int):Int:=(l.find? (· != 0)).getD 0
theorem Hk(a b:Int):av 322 [.one (I a),.one (I b)] [.one (I (kk a b))]:=by
 unfold kk;by_cases h:a<b
 ·rw[bh h];exact ayh ⟨dc h,ad⟩
 rw[bq h];by_cases U:b<a
 ·rw[bh U];exact ayi ⟨dE h,dc U,ad⟩
 rw[bq U];exact ayj ⟨dE h,dE U,ad⟩
theorem Wl(a:Int):av 388 [.one (I a)] [.one (B false)]:=by
 have:=ayk a trivial;simpa using this
theorem Wm(a b:Int):av 382 [.one (I a),.one (I b)] [.one (I (kk a b))]:=by
 have x:=Wl a;have y:=Wl b;unfold kk;by_cases h:a<b
 ·rw[bh h];exact ayl ⟨x,y,rfl,rfl,dc h,ad⟩
 rw[bq h];by_cases U:b<a
 ·rw[bh U];exact aym ⟨x,y,rfl,rfl,dE h,dc U,ad⟩
 rw[bq U];exact ayn ⟨x,y,rfl,rfl,dE h,dE U,ad⟩
theorem Wn{xs ys:List Int}{i:Nat}{d:Int}(h:(List.zipWith kk xs ys)[i]?=some d):∃a b,xs[i]?=some a/\ys[i]?=some b/\kk a b=d:=by
 rw[List.getElem?_zipWith]at h;cases h1:xs[i]? with
 | none=>simp[h1]at h
 | some a=>
  cases U:ys[i]? with
  | none=>simp[h1,U]at h
  | some b=>exact⟨a,b,rfl,rfl,by simpa[h1,U]using h⟩
theorem afq(xs ys:List Int)(aj:xs.length=ys.length)(hm:xs.length<=8388608):av 364 [.one (.J 1 (xs.map bd)),.one (.J 1 (ys.map bd))] [.one (I (sT (List.zipWith kk xs ys)))]:=by
 have aL:(List.zipWith kk xs ys).length=xs.length:=by simp[aj]
 have l:=hf (P:=prog) (c:=(ap f364 0)) (List.zipWith kk xs ys) (fun d=>d != 0) (fun i=>yx (xs.map bd) (ys.map bd) i) (X:=fun _ d=>Ol d) eZ (ci 0)
  (fun i d aF h=>by
   obtain⟨a,b,ae,aq,rfl⟩:=Wn aF;exact azP ⟨bT (a6 ae),bx,bA (a6 ae),bw bd ae,dE (by have:=a6 aq;simp;omega),bx,bA (a6 aq),bw bd aq,Wm a b,h,cP (a6 ae) hm,ad⟩)
  (fun i d aF h=>by
   obtain⟨a,b,ae,aq,rfl⟩:=Wn aF;exact azO ⟨bT (a6 ae),bx,bA (a6 ae),bw bd ae,dE (by have:=a6 aq;simp;omega),bx,bA (a6 aq),bw bd aq,Wm a b,h,ad⟩)
  (by rw[aL];exact azQ ⟨dq,ad⟩)
 unfold sT;rcases l with⟨h1,_,_,U⟩ | ⟨i,a,_,_,h1,_,_,U⟩
 ·rw[h1];exact azS ⟨U,by simp[aj],ad⟩
 rw[h1];exact azR ⟨U,ad⟩
theorem afr(xs ys:List Int)(aj:xs.length=ys.length)(hm:xs.length<=8388608):av 335 [.one (.J 1 (xs.map bd)),.one (.J 1 (ys.map bd))] [.one (I (sT (List.zipWith kk xs ys)))]:=
 azT ⟨afq xs ys aj hm,ad⟩
def fS(a b:Cell):Int:=sT [kk a.aU b.aU,kk a.op b.op,kk a.key b.key,kk a.val b.val]
theorem Hl(a b:Cell):av 304 [.agg a.e,.agg b.e] [.one (I (fS a b))]:=
 azi ⟨afr [a.aU,a.op,a.key,a.val] [b.aU,b.op,b.key,b.val] rfl (by simp),ad⟩
theorem Hm(a b:Cell):av 307 [.agg a.e,.agg b.e] [.one (I (fS a b))]:=by
 have dt:=Hk a.aU b.aU;have dm:=Hk a.op b.op;have eY:=Hk a.key b.key;have kj:=Hk a.val b.val;unfold fS;generalize kk a.aU b.aU=fM at*;generalize kk a.op b.op=gO at*;generalize kk a.key b.key=nK at*;generalize kk a.val b.val=wT at*;have l:=hf (P:=prog) (c:=(ap f307 0)) [fM,gO,nK,wT] (fun d=>d != 0) (fun i=>yK fM gO nK wT i) (X:=fun _ d=>Ox d) eZ (ci 0)
  (fun i d aF h=>aAF ⟨dc (by have:=a6 aF;simp at this;omega),bx,by have:=a6 aF;simp at this ⊢;omega,bw bd aF,h,⟨by omega,by have:=a6 aF;simp at this;omega⟩,ad⟩)
  (fun i d aF h=>aAE ⟨dc (by have:=a6 aF;simp at this;omega),bx,by have:=a6 aF;simp at this ⊢;omega,bw bd aF,h,bx,by have:=a6 aF;simp at this ⊢;omega,bw bd aF,ad⟩)
  (aAG ⟨rfl,ad⟩)
 unfold sT;rcases l with⟨h1,_,_,U⟩ | ⟨i,a,_,_,h1,_,_,U⟩
 ·rw[h1];exact aAI ⟨dt,dm,eY,kj,U,ad⟩
 rw[h1];exact aAH ⟨dt,dm,eY,kj,U,ad⟩
end Go.Proofs.YtdchjefneblpgaaGreat
namespace Go.Proofs.YtdchjefneblpgaaGreat
open Go.Sx Go.RowKit Go.Sort Go.Proofs.Tryz
def pd(u v:List Int):Int:=sT (List.zipWith kk u v)
theorem afs(d:Int)(l:List Int):sT (d::l)=if d=0 then sT l else d:=by
 unfold sT;by_cases h:d=0
 ·simp[h]
 simp[h]
theorem aft(a b:Int)(u v:List Int):pd (a::u) (b::v)=if a=b then pd u v else kk a b:=by
 unfold pd;rw[List.zipWith_cons_cons,afs];have:kk a b=0<->a=b:=by unfold kk;split<;>(try split)<;>constructor<;>intro h<;>omega
 by_cases h:a=b
 ·rw[bh (this.2 h),bh h]
 rw[bq (fun e=>h (this.1 e)),bq h]
theorem NH(a b:Int)(u v:List Int):pd (a::u) (b::v)<0<->a<b\/(a=b/\pd u v<0):=by
 rw[aft];split
 ·constructor
  ·intro h;exact .inr ⟨‹_›,h⟩
  rintro (h | h)
  ·omega
  exact h.2
 ·unfold kk;split<;>(try split)<;>constructor<;>intro h<;>omega
theorem Wo:∀u:List Int,¬pd u u<0
 | []=>by simp[pd,sT]
 | a::u=>by rw[NH];have:=Wo u;omega
theorem Wp:∀(u v w:List Int),u.length=v.length->v.length=w.length->pd u v<0->pd v w<0->pd u w<0
 | [],[],[],_,_,h,_=>h
 | a::u,b::v,c::w,h1,U,aA,aI=>by
  rw[NH] at*;have:=Wp u v w (by simpa using h1) (by simpa using U);omega
theorem Wq:∀(u v:List Int),u.length=v.length->¬pd u v<0->¬pd v u<0->u=v
 | [],[],_,_,_=>rfl
 | a::u,b::v,h1,aA,aI=>by
  rw[NH]at aA aI;have dw:a=b:=by omega
  subst dw;rw[Wq u v (by simpa using h1) (by omega) (by omega)]
section
variable {α : Type}
abbrev aB1(lt:α->α->Bool)(S:List α):Prop:=S.Pairwise fun a b=>(!lt b a)=true
end
end Go.Proofs.YtdchjefneblpgaaGreat
namespace Go.Proofs.YtdchjefneblpgaaGreat
open Go.Sx Go.RowKit Go.Proofs.Tryz
def nq{α:Type}(p:α->Bool)(xs:List α):Int:=match xs.findIdx? p with | some i=>i | none=>-1
theorem Wr{α:Type}(p:α->Bool)(xs:List α):decide (nq p xs>=0)=xs.any p:=by
 unfold nq;cases h:xs.findIdx? p with
 | none=>
  have:xs.any p=false:=by
   rw[fm];rw[Ju]at h;exact fun a ae=>by simp[h a ae]
  rw[this];rfl
 | some i=>
  rw[u6]at h;obtain⟨hi,U,_⟩:=h;have:xs.any p=true:=oj.2 ⟨_,p5 hi,U⟩;rw[this];simp
theorem afu(xs:List ay)(p:ay->Bool)(g:Nat)(bl:List D)(aj:xs.length<=8388608)(al:hV prog g=true)(hp:∀x∈xs,av g ([.agg x.e]++bl.map .one) [.one (B (p x))]):
  av 330 [.one (.J 5 (xs.map ay.e)),.one (.cl g bl)] [.one (I (nq p xs))]:=by
 have mE:∀x∈xs,∀r,p x=r->av g ([.agg x.e]++bl.map .one) [.one (B r)]:=fun x aa r h=>h▸hp x aa
 have l:=hf (P:=prog) (c:=(ap f330 0)) xs p (fun i=>yD (xs.map ay.e) g bl i) (X:=fun i _=>On i) eZ (ci 0)
  (fun i a ae h=>azv ⟨bT (a6 ae),bx,bA (a6 ae),bw ay.e ae,al,mE a (cB ae) false h,rfl,cP (a6 ae) aj,ad⟩)
  (fun i a ae h=>azu ⟨bT (a6 ae),bx,bA (a6 ae),bw ay.e ae,al,mE a (cB ae) true h,rfl,ad⟩)
  (azw ⟨dq,ad⟩)
 rcases l with⟨_,h1,_,U⟩ | ⟨i,a,_,_,_,h1,_,U⟩
 ·simp only[nq,h1];exact azy ⟨U,ad⟩
 simp only[nq,h1];exact azx ⟨U,ad⟩
theorem afv(xs:List ay)(p:ay->Bool)(g:Nat)(bl:List D)(aj:xs.length<=8388608)(al:hV prog g=true)(hp:∀x∈xs,av g ([.agg x.e]++bl.map .one) [.one (B (p x))]):
  av 291 [.one (.J 5 (xs.map ay.e)),.one (.cl g bl)] [.one (B (xs.any p))]:=by
 rw[<-Wr];exact aze ⟨afu xs p g bl aj al hp,ad⟩
theorem afw(xs:List cz)(p:cz->Bool)(g:Nat)(bl:List D)(aj:xs.length<=8388608)(al:hV prog g=true)(hp:∀x∈xs,av g ([.agg x.e]++bl.map .one) [.one (B (p x))]):
  av 352 [.one (.J 2 (xs.map cz.e)),.one (.cl g bl)] [.one (I (nq p xs))]:=by
 have mE:∀x∈xs,∀r,p x=r->av g ([.agg x.e]++bl.map .one) [.one (B r)]:=fun x aa r h=>h▸hp x aa
 have l:=hf (P:=prog) (c:=(ap f352 0)) xs p (fun i=>yE (xs.map cz.e) g bl i) (X:=fun i _=>Oo i) eZ (ci 0)
  (fun i a ae h=>azA ⟨bT (a6 ae),bx,bA (a6 ae),bw cz.e ae,al,mE a (cB ae) false h,rfl,cP (a6 ae) aj,ad⟩)
  (fun i a ae h=>azz ⟨bT (a6 ae),bx,bA (a6 ae),bw cz.e ae,al,mE a (cB ae) true h,rfl,ad⟩)
  (azB ⟨dq,ad⟩)
 rcases l with⟨_,h1,_,U⟩ | ⟨i,a,_,_,_,h1,_,U⟩
 ·simp only[nq,h1];exact azD ⟨U,ad⟩
 simp only[nq,h1];exact azC ⟨U,ad⟩
theorem afx(xs:List cz)(p:cz->Bool)(g:Nat)(bl:List D)(aj:xs.length<=8388608)(al:hV prog g=true)(hp:∀x∈xs,av g ([.agg x.e]++bl.map .one) [.one (B (p x))]):
  av 328 [.one (.J 2 (xs.map cz.e)),.one (.cl g bl)] [.one (B (xs.any p))]:=by
 rw[<-Wr];exact azf ⟨afw xs p g bl aj al hp,ad⟩
theorem afy(xs:List bW)(p:bW->Bool)(g:Nat)(bl:List D)(aj:xs.length<=8388608)(al:hV prog g=true)(hp:∀x∈xs,av g ([.agg x.e]++bl.map .one) [.one (B (p x))]):
  av 290 [.one (.J 3 (xs.map bW.e)),.one (.cl g bl)] [.one (I (nq p xs))]:=by
 have mE:∀x∈xs,∀r,p x=r->av g ([.agg x.e]++bl.map .one) [.one (B r)]:=fun x aa r h=>h▸hp x aa
 have l:=hf (P:=prog) (c:=(ap f290 0)) xs p (fun i=>yF (xs.map bW.e) g bl i) (X:=fun i _=>Oq i) eZ (ci 0)
  (fun i a ae h=>azF ⟨bT (a6 ae),bx,bA (a6 ae),bw bW.e ae,al,mE a (cB ae) false h,rfl,cP (a6 ae) aj,ad⟩)
  (fun i a ae h=>azE ⟨bT (a6 ae),bx,bA (a6 ae),bw bW.e ae,al,mE a (cB ae) true h,rfl,ad⟩)
  (azG ⟨dq,ad⟩)
 rcases l with⟨_,h1,_,U⟩ | ⟨i,a,_,_,_,h1,_,U⟩
 ·simp only[nq,h1];exact azI ⟨U,ad⟩
 simp only[nq,h1];exact azH ⟨U,ad⟩
theorem afz(xs:List Cell)(p:Cell->Bool)(g:Nat)(bl:List D)(aj:xs.length<=8388608)(al:hV prog g=true)(hp:∀x∈xs,av g ([.agg x.e]++bl.map .one) [.one (B (p x))]):
  av 375 [.one (.J 4 (xs.map Cell.e)),.one (.cl g bl)] [.one (I (nq p xs))]:=by
 have mE:∀x∈xs,∀r,p x=r->av g ([.agg x.e]++bl.map .one) [.one (B r)]:=fun x aa r h=>h▸hp x aa
 have l:=hf (P:=prog) (c:=(ap f375 0)) xs p (fun i=>yG (xs.map Cell.e) g bl i) (X:=fun i _=>Ot i) eZ (ci 0)
  (fun i a ae h=>azK ⟨bT (a6 ae),bx,bA (a6 ae),bw Cell.e ae,al,mE a (cB ae) false h,rfl,cP (a6 ae) aj,ad⟩)
  (fun i a ae h=>azJ ⟨bT (a6 ae),bx,bA (a6 ae),bw Cell.e ae,al,mE a (cB ae) true h,rfl,ad⟩)
  (azL ⟨dq,ad⟩)
 rcases l with⟨_,h1,_,U⟩ | ⟨i,a,_,_,_,h1,_,U⟩
 ·simp only[nq,h1];exact azN ⟨U,ad⟩
 simp only[nq,h1];exact azM ⟨U,ad⟩
end Go.Proofs.YtdchjefneblpgaaGreat
namespace Go.Proofs.YtdchjefneblpgaaGreat
open Go.Sx Go.RowKit Go.Proofs.Tryz
def iE(n:Int):List D:=[.v (.int .u8 n)]
structure gq where
 i:Int
 h:Int
def gq.e(b:List Int)(c:gq):List D:=[.J 1 (b.map iE),I c.i,I c.h]
def Bytes(b:List Int):Prop:=b.length<=8388608/\∀x∈b,0<=x/\x<=255
def gq.ok(b:List Int)(c:gq):Prop:=Bytes b/\0<=c.i/\c.i<=b.length
theorem aBx{P:Program}{t:TypeId}{ds:List D}(hu:P.underlying t=some (.int .u8))(h:kP P t ds):∃n,ds=iE n/\0<=n/\n<=255:=by
 have U:∃n,ds=[.v (.int .u8 n)]/\(Lit.int .u8 n).wf=true:=by cases h<;>simp_all
 obtain⟨n,e,hw⟩:=U;refine⟨n,e,?_⟩;simp[Lit.wf]at hw;have aA:IntKind.u8.min=0:=rfl;rw[aA]at hw;exact hw
theorem afA:prog.cellsOf 5=1:=by kernel_rfl
theorem afB{ds:List D}(h:kP prog 22 ds):∃xs:List Int,ds=[.J 1 (xs.map iE)]/\(xs.length:Int)<=9223372036854775807/\∀a∈xs,(fun n=>0<=n/\n<=255) a:=
 axo iE (fun n=>0<=n/\n<=255) Tryz.underlying22 afA (fun ds h=>aBx Tryz.underlying5 h) h
theorem afC{ct:cL}(h:Fe prog 22 ct):∃xs:List Int,ct=.one (.J 1 (xs.map iE))/\(xs.length:Int)<=9223372036854775807/\∀a∈xs,(fun n=>0<=n/\n<=255) a:=by
 cases ct with
 | agg ds=>have:=h.2;simp[tG,Tryz.underlying22]at this
 | one d=>
  obtain⟨x,e,aa⟩:=afB h.1;grind
theorem Ws{P:Program}(a:Int)(n:Nat):∃m:Int,∀t x y,nx P .shr t x y (.int .i64 a) (.int .u64 (n:Int)) (.int .i64 m):=⟨_,fun _ _ _=>axv⟩
theorem afD{P:Program}(a b:Int):∃m:Int,∀t x y,nx P .xor t x y (.int .i64 a) (.int .i64 b) (.int .i64 m):=⟨_,fun _ _ _=>axw⟩
theorem NI{P:Program}(a:Int)(k:Nat)(hk:k<2 ^ 62):∃m:Int,(0<=m/\m<=k)/\∀t x y,nx P .and t x y (.int .i64 a) (.int .i64 (k:Int)) (.int .i64 m):=⟨_,axy a k hk,fun _ _ _=>axx⟩
theorem Wt(b:List Int)(aq:Bytes b):∀(n i:Nat) (h:Int),i+n=b.length->0<=h/\h<=1073741823->∃kV,cN prog (ap f117 0) (AX (b.map iE) i h) (.exit 0) (Hg (b.map iE) kV)
 | 0,i,h,hi,bK=>⟨h,.last (ci 0) (axF ⟨by grind,ad⟩)⟩
 | n+1,i,h,hi,bK=>by
  have aj:=aq.1;obtain⟨x,aa⟩:=cV (xs:=b) (i:=i) (by omega);have aq:=aq.2 x (cB aa);by_cases aI:(i:Int)<4000
  ·obtain⟨m,hm,r⟩:=NI (P:=prog) (h*131+x+7) 1073741823 (by decide);obtain⟨kV,l⟩:=Wt b ‹Bytes b› n (i+1) m (by omega) hm;exact⟨kV,.more (axD ⟨bT (by omega),o4 aI,⟨by omega,by omega⟩,bx,bA (by omega),bw iE aa,⟨by omega,by omega⟩,⟨by omega,by omega⟩,⟨by omega,by omega⟩,r _ _ _,⟨by omega,by omega⟩,ad⟩) l⟩
  exact⟨h,.last (ci 0) (axE ⟨bT (by omega),p7 aI,ad⟩)⟩
theorem NJ(b:List Int)(aq:Bytes b):∃c:gq,c.ok b/\cH prog 117 [.ro (.one (.J 1 (b.map iE)))] (.iZ [some 0,none,none] (c.e b)):=by
 have aj:=aq.1;obtain⟨kV,l⟩:=Wt b aq b.length 0 (94701+(↑(b.map iE).length:Int)) (by omega) ⟨by omega,by simp;omega⟩;exact⟨⟨0,kV⟩,⟨aq,by grind,by grind⟩,axG ⟨⟨by omega,by simp;omega⟩,l,ad⟩⟩
theorem Hn(b:List Int)(c:gq)(al:c.ok b):∃(d:gq) (n:Int),d.ok b/\(0<=n/\n<=255)/\cH prog 253 [.cur (c.e b) (d.e b)] (.vals [.one (I n)]):=by
 obtain⟨⟨h1,U⟩,aA,aI⟩:=al;obtain⟨iX,dz⟩:=Ws (P:=prog) (IntKind.i64.wrap (IntKind.i64.wrap (c.h*6364136223846793005)+1442695040888963407)) 33;obtain⟨jS,gz⟩:=Ws (P:=prog) (IntKind.i64.wrap (IntKind.i64.wrap (c.h*6364136223846793005)+1442695040888963407)) 45;obtain⟨lv,mR⟩:=afD (P:=prog) iX jS;obtain⟨n6,m6,pX⟩:=NI (P:=prog) lv 255 (by decide);by_cases hi:c.i<b.length
 ·obtain⟨x,aa⟩:=cV (xs:=b) (i:=c.i.toNat) (by omega);have aq:=U x (cB aa);obtain⟨n8,m8,aBe⟩:=NI (P:=prog) (IntKind.i64.wrap (n6+IntKind.i64.wrap x)) 255 (by decide);exact⟨⟨c.i+1,IntKind.i64.wrap (IntKind.i64.wrap (c.h*6364136223846793005)+1442695040888963407)⟩,n8,⟨⟨h1,U⟩,by grind,by grind⟩,m8,axH ⟨dz _ _ _,gz _ _ _,mR _ _ _,pX _ _ _,by grind,aA,by grind,by rw[eg,aa];rfl,aBe _ _ _,⟨by omega,by omega⟩,ad⟩⟩
 exact⟨⟨c.i,IntKind.i64.wrap (IntKind.i64.wrap (c.h*6364136223846793005)+1442695040888963407)⟩,n6,⟨⟨h1,U⟩,aA,aI⟩,m6,axI ⟨dz _ _ _,gz _ _ _,mR _ _ _,pX _ _ _,by grind,ad⟩⟩
theorem hY(b:List Int)(c:gq)(k:Int)(al:c.ok b)(hk:1<=k/\k<=1000000):∃(d:gq) (n:Int),d.ok b/\(0<=n/\n<k)/\cH prog 138 [.cur (c.e b) (d.e b),.ro (.one (I k))] (.vals [.one (I n)]):=by
 have md:∀m:Int,0<=m->0<=m.tmod k/\m.tmod k<k:=fun m hm=>⟨Int.tmod_nonneg _ hm,Int.tmod_lt_of_pos m (by omega)⟩
 obtain⟨d1,gv,dt,eO,b4⟩:=Hn b c al;by_cases h:k<=256
 ·exact⟨d1,_,dt,md gv eO.1,axJ ⟨p7 (by omega),o4 h,b4,by omega,ad⟩⟩
 obtain⟨d2,gT,dm,fo,cQ⟩:=Hn b d1 dt;obtain⟨d3,iX,eY,l7,dz⟩:=Hn b d2 dm;obtain⟨d4,jS,kj,xa,gz⟩:=Hn b d3 eY;exact⟨d4,_,kj,md _ (by omega),axK ⟨p7 (by omega),p7 h,b4,cQ,dz,gz,⟨by omega,by omega⟩,⟨by omega,by omega⟩,⟨by omega,by omega⟩,⟨by omega,by omega⟩,⟨by omega,by omega⟩,⟨by omega,by omega⟩,by omega,ad⟩⟩
theorem Wu(b:List Int)(c:gq)(k:Int)(al:c.ok b)(hk:1<=k/\k<=1000000):∃(d:gq) (x:Bool),d.ok b/\cH prog 136 [.cur (c.e b) (d.e b),.ro (.one (I k))] (.vals [.one (B x)]):=by
 obtain⟨d,n,o,_,r⟩:=hY b c k al hk;exact⟨d,_,o,axL ⟨r,ad⟩⟩
theorem uK(b:List Int)(c:gq)(xs:List Int)(al:c.ok b)(hk:1<=xs.length/\xs.length<=1000):∃(d:gq) (n:Int),d.ok b/\n∈xs/\cH prog 140 [.cur (c.e b) (d.e b),.ro (.one (.J 1 (xs.map bd)))] (.vals [.one (I n)]):=by
 obtain⟨d,n,o,aq,r⟩:=hY b c (xs.length:Int) al (by omega);obtain⟨x,aa⟩:=cV (xs:=xs) (i:=n.toNat) (by omega);refine⟨d,x,o,cB aa,axM ⟨?_,aq.1,by grind,by rw[eg,aa];rfl,ad⟩⟩;rw[cp];exact r
end Go.Proofs.YtdchjefneblpgaaGreat
namespace Go.Proofs.YtdchjefneblpgaaGreat
open Go.Sx Go.RowKit Go.Proofs.Tryz
def Input(r:ay):Prop:=r.op=0/\r.bf.dG=0/\(0<=r.bf.aU/\r.bf.aU<=2)/\(0<=r.key/\r.key<12)/\(0<=r.val/\r.val<40)
theorem Wv(b:List Int):∀(n i:Nat) (e:Int) (xs:List ay) (c:gq),i+n=5->c.ok b->(0<=e/\e<=2)->xs.length<=i->(∀r∈xs,Input r)->
  ∃(ys:List ay) (d:gq),d.ok b/\ys.length<=5/\(∀r∈ys,Input r)/\cN prog (ap f119 0) (Dc (b.map iE) i e (xs.map ay.e) c.i c.h) (.exit 0) (Oe (b.map iE) (ys.map ay.e) d.i d.h)
 | n,i,e,xs,c,iu,al,he,aj,aa=>by
  obtain⟨d1,m,dt,aq,b4⟩:=hY b c 6 al (by omega);by_cases h:(i:Int)<m
  ·match n with
   | 0=>omega
   | n+1=>
    obtain⟨d2,a,dm,ae,cQ⟩:=hY b d1 2 dt (by omega);obtain⟨d3,k,eY,hk,dz⟩:=hY b d2 12 dm (by omega);obtain⟨d4,v,kj,bD,gz⟩:=hY b d3 40 eY (by omega);have qa:=Hj (e+a) 0 2;have R4:0<=hG (e+a) 0 2/\hG (e+a) 0 2<=2:=by
     unfold hG;simp only[show ¬(2:Int)<0 by omega,mr];split<;>(try split)<;>omega
    obtain⟨ys,d,o,gD,hN,l⟩:=Wv b n (i+1) (hG (e+a) 0 2) (xs++[⟨0,⟨hG (e+a) 0 2,0⟩,k,v⟩]) d4 (by omega) kj R4 (by simp;omega) (fun r aB=>by
     rcases gg.1 aB with aB | aB
     ·exact aa r aB
     rw[List.mem_singleton]at aB;subst aB;exact⟨rfl,rfl,R4,hk,bD⟩)
    refine⟨ys,d,o,gD,hN,.more ?_ l⟩;rw[gF];exact ayY ⟨b4,o4 h,cQ,⟨by omega,by omega⟩,qa,dz,gz,by simp;omega,by simp;omega,fA (fun d aF=>by simp only[dQ,qW,or_false]at aF;rcases aF with rfl | rfl | rfl | rfl | rfl<;>exact⟨_,rfl⟩),⟨by omega,by omega⟩,ad⟩
  exact⟨xs,d1,dt,by omega,aa,.last (ci 0) (ayZ ⟨b4,p7 h,ad⟩)⟩
theorem Ho(b:List Int)(c:gq)(al:c.ok b):∃(d:gq) (xs:List ay),d.ok b/\xs.length<=5/\(∀r∈xs,Input r)/\cH prog 119 [.cur (c.e b) (d.e b)] (.vals [.one (.J 5 (xs.map ay.e))]):=by
 obtain⟨ys,d,o,gD,hN,l⟩:=Wv b 5 0 0 [] c rfl al (by omega) (by simp) (by simp);exact⟨d,ys,o,gD,hN,ay0 ⟨l,ad⟩⟩
