import Derived.Test.YtdchjefneblpgaaGreatT2
import Derived.Test.YtdchjefneblpgaaGreatGN
import Derived.Sort.Statements
import Derived.Shelf.SlSortCmp.Insertion
set_option linter.unusedVariables false
set_option linter.unusedSimpArgs false
namespace Go.Proofs.YtdchjefneblpgaaGreat
open Go.Sx Go.RowKit Go.Proofs.Tryz
def ap(n cX hi:Int):Bool:=decide (cX<=n/\n<=hi)
theorem ic(n cX hi:Int):av 168 [.one (I n),.one (I cX),.one (I hi)] [.one (B (ap n cX hi))]:=by
 by_cases h:cX<=n
 ·have e:ap n cX hi=decide (n<=hi):=by simp[ap,h]
  rw[e];exact ank ⟨by simp only[cU];omega,aa⟩
 rw[show ap n cX hi=false by simp[ap,h]];exact anl ⟨by simp only[mU];omega,aa⟩
theorem fz{n cX hi:Int}(r:Bool)(h:ap n cX hi=r):av 168 [.one (I n),.one (I cX),.one (I hi)] [.one (B r)]:=h▸ic n cX hi
theorem kk(n cX hi:Int):av 190 [.one (I n),.one (I cX),.one (I hi)] [.one (B (ap n cX hi))]:=by
 by_cases h:cX<=n
 ·have e:ap n cX hi=decide (n<=hi):=by simp[ap,h]
  rw[e];exact ani ⟨by simp only[cU];omega,aa⟩
 rw[show ap n cX hi=false by simp[ap,h]];exact anj ⟨by simp only[mU];omega,aa⟩
theorem ix{n cX hi:Int}(r:Bool)(h:ap n cX hi=r):av 190 [.one (I n),.one (I cX),.one (I hi)] [.one (B r)]:=h▸kk n cX hi
def hQ(n cX hi:Int):Int:=if hi<cX then cX else if n<cX then cX else if hi<n then hi else n
theorem Dj(n cX hi:Int):av 130 [.one (I n),.one (I cX),.one (I hi)] [.one (I (hQ n cX hi))]:=by
 unfold hQ;by_cases h1:hi<cX
 ·rw[br h1];exact alC ⟨by simpa using h1,aa⟩
 rw[bh h1];by_cases U:n<cX
 ·rw[br U];exact alD ⟨by simpa using h1,by simpa using U,aa⟩
 rw[bh U];by_cases aw:hi<n
 ·rw[br aw];exact alE ⟨by simpa using h1,by simpa using U,by simpa using aw,aa⟩
 rw[bh aw];exact alF ⟨by simpa using h1,by simpa using U,by simpa using aw,aa⟩
theorem aG.flat(r:aG):∀d∈r.e,∃x,d=.v x:=by
 intro d aD;simp only[aG.e,eu,mT,or_false]at aD;rcases aD with rfl | rfl | rfl | rfl | rfl<;>exact⟨_,rfl⟩
theorem Cell.flat(r:Cell):∀d∈r.e,∃x,d=.v x:=by
 intro d aD;simp only[Cell.e,eu,mT,or_false]at aD;rcases aD with rfl | rfl | rfl | rfl<;>exact⟨_,rfl⟩
theorem dd.flat(r:dd):∀d∈r.e,∃x,d=.v x:=by
 intro d aD;simp only[dd.e,eu,mT,or_false]at aD;rcases aD with rfl | rfl | rfl<;>exact⟨_,rfl⟩
theorem gB.flat(r:gB):∀d∈r.e,∃x,d=.v x:=by
 intro d aD;simp only[gB.e,eu,mT,or_false]at aD;rcases aD with rfl | rfl<;>exact⟨_,rfl⟩
theorem Kn{α:Type}(p:α->Bool)(xs:List α)(i:Nat):((xs.take i).filter p).length<=i:=
 sv (q2 ..) (by simp;omega)
theorem Ko(a r:Cell):(a.op==r.op&&(a.bc==r.bc&&(a.key==r.key&&a.val==r.val)))=decide (a=r):=by
 obtain⟨o,e,k,v⟩:=a;obtain⟨oz,e',cp,oO⟩:=r;rw[Bool.eq_iff_iff];simp only[cx,eD,cU,Cell.mk.injEq]
theorem RA(a r:Cell):(r.op==a.op&&(r.bc==a.bc&&(r.key==a.key&&r.val==a.val)))=decide (a=r):=by
 rw[Ko r a];exact decide_eq_decide.2 ⟨Eq.symm,Eq.symm⟩
theorem Ly{P:Program}{c:Code}{st:aI}{e:hl}{α:Type}(f:α->aI){l gu:α}(h:gl P c st e (f l))(al:l=gu):gl P c st e (f gu):=al▸h
theorem apd{P:Program}{f:Nat}{args:List cF}{k:Nat}{l gu:List (List D)}(h:h2 P f args [.one (.J k l)])(al:l=gu):h2 P f args [.one (.J k gu)]:=al▸h
theorem xy{α β:Type}(f:α->List β)(c:Nat)(h:∀a,(f a).length<=c):∀xs:List α,(xs.flatMap f).length<=xs.length*c
 | []=>by simp
 | a::xs=>by
  have h1:=h a;have U:=xy f c h xs;simp only[List.flatMap_cons,km,dN,fu,Nat.one_mul];omega
theorem dW{p:Prop}[Decidable p](h:p):decide p=true:=j' h
theorem eT{p:Prop}[Decidable p](h:¬p):decide p=false:=lE h
end Go.Proofs.YtdchjefneblpgaaGreat
namespace Go.Proofs.YtdchjefneblpgaaGreat
open Go.Sx Go.RowKit Go.Proofs.Tryz
def iO(a b:Int):Int:=if a<b then -1 else if b<a then 1 else 0
def rS(l:List Int):Int:=(l.find? (· != 0)).getD 0
theorem Dk(a b:Int):av 322 [.one (I a),.one (I b)] [.one (I (iO a b))]:=by
 unfold iO;by_cases h:a<b
 ·rw[br h];exact anm ⟨dW h,aa⟩
 rw[bh h];by_cases U:b<a
 ·rw[br U];exact ann ⟨eT h,dW U,aa⟩
 rw[bh U];exact ano ⟨eT h,eT U,aa⟩
theorem RB(a:Int):av 388 [.one (I a)] [.one (B false)]:=by
 have:=anp a trivial;simpa using this
theorem RC(a b:Int):av 382 [.one (I a),.one (I b)] [.one (I (iO a b))]:=by
 have x:=RB a;have y:=RB b;unfold iO;by_cases h:a<b
 ·rw[br h];exact anq ⟨x,y,rfl,rfl,dW h,aa⟩
 rw[bh h];by_cases U:b<a
 ·rw[br U];exact anr ⟨x,y,rfl,rfl,eT h,dW U,aa⟩
 rw[bh U];exact ant ⟨x,y,rfl,rfl,eT h,eT U,aa⟩
theorem RD{xs ys:List Int}{i:Nat}{d:Int}(h:(List.zipWith iO xs ys)[i]?=some d):∃a b,xs[i]?=some a/\ys[i]?=some b/\iO a b=d:=by
 rw[List.getElem?_zipWith]at h;cases h1:xs[i]? with
 | none=>simp[h1]at h
 | some a=>
  cases U:ys[i]? with
  | none=>simp[h1,U]at h
  | some b=>exact⟨a,b,rfl,rfl,by simpa[h1,U]using h⟩
theorem ape(xs ys:List Int)(al:xs.length=ys.length)(hm:xs.length<=8388608):av 364 [.one (.J 1 (xs.map a')),.one (.J 1 (ys.map a'))] [.one (I (rS (List.zipWith iO xs ys)))]:=by
 have bf:(List.zipWith iO xs ys).length=xs.length:=by simp[al]
 have l:=gN (P:=prog) (c:=(aq f364 0)) (List.zipWith iO xs ys) (fun d=>d != 0) (fun i=>vK (xs.map a') (ys.map a') i) (X:=fun _ d=>Kf d) fg (cM 0)
  (fun i d aD h=>by
   obtain⟨a,b,ah,ar,rfl⟩:=RD aD;exact anv ⟨b' (a8 ah),bF,bI (a8 ah),bG a' ah,eT (by have:=a8 ar;simp;omega),bF,bI (a8 ar),bG a' ar,RC a b,h,df (a8 ah) hm,aa⟩)
  (fun i d aD h=>by
   obtain⟨a,b,ah,ar,rfl⟩:=RD aD;exact anu ⟨b' (a8 ah),bF,bI (a8 ah),bG a' ah,eT (by have:=a8 ar;simp;omega),bF,bI (a8 ar),bG a' ar,RC a b,h,aa⟩)
  (by rw[bf];exact anw ⟨dG,aa⟩)
 unfold rS;rcases l with⟨h1,_,_,U⟩ | ⟨i,a,_,_,h1,_,_,U⟩
 ·rw[h1];exact anz ⟨U,by simp[al],aa⟩
 rw[h1];exact anx ⟨U,aa⟩
theorem apf(xs ys:List Int)(al:xs.length=ys.length)(hm:xs.length<=8388608):av 335 [.one (.J 1 (xs.map a')),.one (.J 1 (ys.map a'))] [.one (I (rS (List.zipWith iO xs ys)))]:=
 anA ⟨ape xs ys al hm,aa⟩
def hR(a b:Cell):Int:=rS [iO a.bc b.bc,iO a.op b.op,iO a.key b.key,iO a.val b.val]
theorem Dl(a b:Cell):av 304 [.agg a.e,.agg b.e] [.one (I (hR a b))]:=
 am6 ⟨apf [a.bc,a.op,a.key,a.val] [b.bc,b.op,b.key,b.val] rfl (by simp),aa⟩
theorem Dm(a b:Cell):av 307 [.agg a.e,.agg b.e] [.one (I (hR a b))]:=by
 have cC:=Dk a.bc b.bc;have cc:=Dk a.op b.op;have cH:=Dk a.key b.key;have fr:=Dk a.val b.val;unfold hR;generalize iO a.bc b.bc=mQ at*;generalize iO a.op b.op=jv at*;generalize iO a.key b.key=tW at*;generalize iO a.val b.val=ss at*;have l:=gN (P:=prog) (c:=(aq f307 0)) [mQ,jv,tW,ss] (fun d=>d != 0) (fun i=>u7 mQ jv tW ss i) (X:=fun _ d=>Kl d) fg (cM 0)
  (fun i d aD h=>aoy ⟨dW (by have:=a8 aD;simp at this;omega),bF,by have:=a8 aD;simp at this ⊢;omega,bG a' aD,h,⟨by omega,by have:=a8 aD;simp at this;omega⟩,aa⟩)
  (fun i d aD h=>aox ⟨dW (by have:=a8 aD;simp at this;omega),bF,by have:=a8 aD;simp at this ⊢;omega,bG a' aD,h,bF,by have:=a8 aD;simp at this ⊢;omega,bG a' aD,aa⟩)
  (aoz ⟨rfl,aa⟩)
 unfold rS;rcases l with⟨h1,_,_,U⟩ | ⟨i,a,_,_,h1,_,_,U⟩
 ·rw[h1];exact aoB ⟨cC,cc,cH,fr,U,aa⟩
 rw[h1];exact aoA ⟨cC,cc,cH,fr,U,aa⟩
end Go.Proofs.YtdchjefneblpgaaGreat
namespace Go.Proofs.YtdchjefneblpgaaGreat
open Go.Sx Go.RowKit Go.Sort Go.Proofs.Tryz
def o4(u v:List Int):Int:=rS (List.zipWith iO u v)
theorem apg(d:Int)(l:List Int):rS (d::l)=if d=0 then rS l else d:=by
 unfold rS;by_cases h:d=0
 ·simp[h]
 simp[h]
theorem aph(a b:Int)(u v:List Int):o4 (a::u) (b::v)=if a=b then o4 u v else iO a b:=by
 unfold o4;rw[List.zipWith_cons_cons,apg];have:iO a b=0<->a=b:=by unfold iO;split<;>(try split)<;>constructor<;>intro h<;>omega
 by_cases h:a=b
 ·rw[br (this.2 h),br h]
 rw[bh (fun e=>h (this.1 e)),bh h]
theorem RE(a b:Int)(u v:List Int):o4 (a::u) (b::v)<0<->a<b\/(a=b/\o4 u v<0):=by
 rw[aph];split
 ·constructor
  ·intro h;exact .inr ⟨‹_›,h⟩
  rintro (h | h)
  ·omega
  exact h.2
 ·unfold iO;split<;>(try split)<;>constructor<;>intro h<;>omega
theorem RF:∀(u v w:List Int),u.length=v.length->v.length=w.length->o4 u v<0->o4 v w<0->o4 u w<0
 | [],[],[],_,_,h,_=>h
 | a::u,b::v,c::w,h1,U,aw,aH=>by
  rw[RE] at*;have:=RF u v w (by simpa using h1) (by simpa using U);omega
theorem RG:∀(u v:List Int),u.length=v.length->¬o4 u v<0->¬o4 v u<0->u=v
 | [],[],_,_,_=>rfl
 | a::u,b::v,h1,aw,aH=>by
  rw[RE]at aw aH;have ho:a=b:=by omega
  subst ho;rw[RG u v (by simpa using h1) (by omega) (by omega)]
section
variable {α : Type}
abbrev atx(lt:α->α->Bool)(S:List α):Prop:=S.Pairwise fun a b=>(!lt b a)=true
end
end Go.Proofs.YtdchjefneblpgaaGreat
namespace Go.Proofs.YtdchjefneblpgaaGreat
open Go.Sx Go.RowKit Go.Proofs.Tryz
def rO{α:Type}(p:α->Bool)(xs:List α):Int:=match xs.findIdx? p with | some i=>i | none=>-1
theorem api{α:Type}(p:α->Bool)(xs:List α):decide (rO p xs>=0)=xs.any p:=by
 unfold rO;cases h:xs.findIdx? p with
 | none=>
  have:xs.any p=false:=by
   rw[hj];rw[Bs]at h;exact fun a ah=>by simp[h a ah]
  rw[this];rfl
 | some i=>
  rw[tZ]at h;obtain⟨hi,U,_⟩:=h;have:xs.any p=true:=oX.2 ⟨_,q3 hi,U⟩;rw[this];simp
theorem apj(xs:List cD)(p:cD->Bool)(g:Nat)(bC:List D)(al:xs.length<=8388608)(ai:iQ prog g=true)(hp:∀x∈xs,av g ([.agg x.e]++bC.map .one) [.one (B (p x))]):
  av 352 [.one (.J 2 (xs.map cD.e)),.one (.cl g bC)] [.one (I (rO p xs))]:=by
 have pw:∀x∈xs,∀r,p x=r->av g ([.agg x.e]++bC.map .one) [.one (B r)]:=fun x ag r h=>h▸hp x ag
 have l:=gN (P:=prog) (c:=(aq f352 0)) xs p (fun i=>u3 (xs.map cD.e) g bC i) (X:=fun i _=>Kh i) fg (cM 0)
  (fun i a ah h=>amU ⟨b' (a8 ah),bF,bI (a8 ah),bG cD.e ah,ai,pw a (eA ah) false h,rfl,df (a8 ah) al,aa⟩)
  (fun i a ah h=>amT ⟨b' (a8 ah),bF,bI (a8 ah),bG cD.e ah,ai,pw a (eA ah) true h,rfl,aa⟩)
  (amV ⟨dG,aa⟩)
 rcases l with⟨_,h1,_,U⟩ | ⟨i,a,_,_,_,h1,_,U⟩
 ·simp only[rO,h1];exact amX ⟨U,aa⟩
 simp only[rO,h1];exact amW ⟨U,aa⟩
theorem apk(xs:List cD)(p:cD->Bool)(g:Nat)(bC:List D)(al:xs.length<=8388608)(ai:iQ prog g=true)(hp:∀x∈xs,av g ([.agg x.e]++bC.map .one) [.one (B (p x))]):
  av 328 [.one (.J 2 (xs.map cD.e)),.one (.cl g bC)] [.one (B (xs.any p))]:=by
 rw[<-api];exact am3 ⟨apj xs p g bC al ai hp,aa⟩
theorem apl(xs:List Cell)(p:Cell->Bool)(g:Nat)(bC:List D)(al:xs.length<=8388608)(ai:iQ prog g=true)(hp:∀x∈xs,av g ([.agg x.e]++bC.map .one) [.one (B (p x))]):
  av 375 [.one (.J 4 (xs.map Cell.e)),.one (.cl g bC)] [.one (I (rO p xs))]:=by
 have pw:∀x∈xs,∀r,p x=r->av g ([.agg x.e]++bC.map .one) [.one (B r)]:=fun x ag r h=>h▸hp x ag
 have l:=gN (P:=prog) (c:=(aq f375 0)) xs p (fun i=>u4 (xs.map Cell.e) g bC i) (X:=fun i _=>Ki i) fg (cM 0)
  (fun i a ah h=>amZ ⟨b' (a8 ah),bF,bI (a8 ah),bG Cell.e ah,ai,pw a (eA ah) false h,rfl,df (a8 ah) al,aa⟩)
  (fun i a ah h=>amY ⟨b' (a8 ah),bF,bI (a8 ah),bG Cell.e ah,ai,pw a (eA ah) true h,rfl,aa⟩)
  (am0 ⟨dG,aa⟩)
 rcases l with⟨_,h1,_,U⟩ | ⟨i,a,_,_,_,h1,_,U⟩
 ·simp only[rO,h1];exact am2 ⟨U,aa⟩
 simp only[rO,h1];exact am1 ⟨U,aa⟩
