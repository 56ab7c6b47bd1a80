import Derived.Test.YtdchjefneblpgaaGreatT2
import Derived.Test.YtdchjefneblpgaaGreatGN
import Derived.Sort.Statements
import Derived.Shelf.SlSortCmp.Insertion
set_option linter.unusedVariables false
set_option linter.unusedSimpArgs false
namespace Go.Proofs.YtdchjefneblpgaaGreat
open Go.Sx Go.RowKit Go.Proofs.Tryz
def av(n c7 hi:Int):Bool:=decide (c7<=n/\n<=hi)
theorem je(n c7 hi:Int):aq 168 [.one (I n),.one (I c7),.one (I hi)] [.one (B (av n c7 hi))]:=by
 by_cases h:c7<=n
 ·have e:av n c7 hi=decide (n<=hi):=by simp[av,h]
  rw[e];exact axr ⟨by simp only[ck];omega,aa⟩
 rw[show av n c7 hi=false by simp[av,h]];exact ayS ⟨by simp only[mG];omega,aa⟩
theorem gg(n c7 hi:Int)(r:Bool)(h:av n c7 hi=r):aq 168 [.one (I n),.one (I c7),.one (I hi)] [.one (B r)]:=h▸je n c7 hi
theorem lB(n c7 hi:Int):aq 190 [.one (I n),.one (I c7),.one (I hi)] [.one (B (av n c7 hi))]:=by
 by_cases h:c7<=n
 ·have e:av n c7 hi=decide (n<=hi):=by simp[av,h]
  rw[e];exact axp ⟨by simp only[ck];omega,aa⟩
 rw[show av n c7 hi=false by simp[av,h]];exact axq ⟨by simp only[mG];omega,aa⟩
theorem hM{n c7 hi:Int}(r:Bool)(h:av n c7 hi=r):aq 190 [.one (I n),.one (I c7),.one (I hi)] [.one (B r)]:=h▸lB n c7 hi
def fT(n c7 hi:Int):Int:=if hi<c7 then c7 else if n<c7 then c7 else if hi<n then hi else n
theorem He(n c7 hi:Int):aq 130 [.one (I n),.one (I c7),.one (I hi)] [.one (I (fT n c7 hi))]:=by
 unfold fT;by_cases h1:hi<c7
 ·rw[bn h1];exact axx ⟨by simpa using h1,aa⟩
 rw[bw h1];by_cases U:n<c7
 ·rw[bn U];exact axy ⟨by simpa using h1,by simpa using U,aa⟩
 rw[bw U];by_cases aA:hi<n
 ·rw[bn aA];exact axz ⟨by simpa using h1,by simpa using U,by simpa using aA,aa⟩
 rw[bw aA];exact axA ⟨by simpa using h1,by simpa using U,by simpa using aA,aa⟩
theorem Uy(n c7 hi:Int):aq 167 [.one (I n),.one (I c7),.one (I hi)] [.one (I (fT n c7 hi))]:=by
 unfold fT;by_cases h1:hi<c7
 ·rw[bn h1];exact axB ⟨by simpa using h1,aa⟩
 rw[bw h1];by_cases U:n<c7
 ·rw[bn U];exact axC ⟨by simpa using h1,by simpa using U,aa⟩
 rw[bw U];exact axD ⟨by simpa using h1,by simpa using U,aa⟩
theorem az.flat(r:az):∀d∈r.e,∃x,d=.v x:=by
 intro d aE;simp only[az.e,eH,pW,or_false]at aE;rcases aE with rfl | rfl | rfl | rfl | rfl<;>exact⟨_,rfl⟩
theorem Cell.flat(r:Cell):∀d∈r.e,∃x,d=.v x:=by
 intro d aE;simp only[Cell.e,eH,pW,or_false]at aE;rcases aE with rfl | rfl | rfl | rfl<;>exact⟨_,rfl⟩
theorem b'.flat(r:b'):∀d∈r.e,∃x,d=.v x:=by
 intro d aE;simp only[b'.e,eH,pW,or_false]at aE;rcases aE with rfl | rfl | rfl<;>exact⟨_,rfl⟩
theorem gC.flat(r:gC):∀d∈r.e,∃x,d=.v x:=by
 intro d aE;simp only[gC.e,eH,pW,or_false]at aE;rcases aE with rfl | rfl<;>exact⟨_,rfl⟩
theorem Hf{α:Type}(p:α->Bool)(xs:List α)(i:Nat):((xs.take i).filter p).length<=i:=
 mF (pT ..) (by simp;omega)
theorem Ma(a r:Cell):(a.op==r.op&&(a.a8==r.a8&&(a.key==r.key&&a.val==r.val)))=decide (a=r):=by
 obtain⟨o,e,k,v⟩:=a;obtain⟨rq,e',ch,kR⟩:=r;rw[Bool.eq_iff_iff];simp only[cw,ka,ck,Cell.mk.injEq]
theorem Uz(a r:Cell):(r.op==a.op&&(r.a8==a.a8&&(r.key==a.key&&r.val==a.val)))=decide (a=r):=by
 rw[Ma r a];exact decide_eq_decide.2 ⟨Eq.symm,Eq.symm⟩
theorem qC{P:Program}{c:Code}{st:aC}{e:hV}{α:Type}(f:α->aC){l gV:α}(h:fX P c st e (f l))(al:l=gV):fX P c st e (f gV):=al▸h
theorem aAF{P:Program}{f:Nat}{args:List cP}{k:Nat}{l gV:List (List D)}(h:iV P f args [.one (.J k l)])(al:l=gV):iV P f args [.one (.J k gV)]:=al▸h
theorem Am{α β:Type}(f:α->List β)(c:Nat)(h:∀a,(f a).length<=c):∀xs:List α,(xs.flatMap f).length<=xs.length*c
 | []=>by simp
 | a::xs=>by
  have h1:=h a;have U:=Am f c h xs;simp only[List.flatMap_cons,hs,gQ,hT,Nat.one_mul];omega
theorem dh{p:Prop}[Decidable p](h:p):decide p=true:=lg h
theorem ea{p:Prop}[Decidable p](h:¬p):decide p=false:=oL h
end Go.Proofs.YtdchjefneblpgaaGreat
namespace Go.Proofs.YtdchjefneblpgaaGreat
open Go.Sx Go.RowKit Go.Proofs.Tryz
def hA(a b:Int):Int:=if a<b then -1 else if b<a then 1 else 0
def mn(l:List Int):Int:=(l.find? (· != 0)).getD 0
theorem uh(a b:Int):aq 322 [.one (I a),.one (I b)] [.one (I (hA a b))]:=by
 unfold hA;by_cases h:a<b
 ·rw[bn h];exact ayT ⟨dh h,aa⟩
 rw[bw h];by_cases U:b<a
 ·rw[bn U];exact ayU ⟨ea h,dh U,aa⟩
 rw[bw U];exact ayV ⟨ea h,ea U,aa⟩
theorem UA(a:Int):aq 388 [.one (I a)] [.one (B false)]:=by
 have:=ayW a trivial;simpa using this
theorem UB(a b:Int):aq 382 [.one (I a),.one (I b)] [.one (I (hA a b))]:=by
 have x:=UA a;have y:=UA b;unfold hA;by_cases h:a<b
 ·rw[bn h];exact ayX ⟨x,y,rfl,rfl,dh h,aa⟩
 rw[bw h];by_cases U:b<a
 ·rw[bn U];exact ayY ⟨x,y,rfl,rfl,ea h,dh U,aa⟩
 rw[bw U];exact ayZ ⟨x,y,rfl,rfl,ea h,ea U,aa⟩
theorem UC{xs ys:List Int}{i:Nat}{d:Int}(h:(List.zipWith hA xs ys)[i]?=some d):∃a b,xs[i]?=some a/\ys[i]?=some b/\hA a b=d:=by
 rw[List.getElem?_zipWith]at h;cases h1:xs[i]? with
 | none=>simp[h1]at h
 | some a=>
  cases U:ys[i]? with
  | none=>simp[h1,U]at h
  | some b=>exact⟨a,b,rfl,rfl,by simpa[h1,U]using h⟩
theorem aAG(xs ys:List Int)(al:xs.length=ys.length)(hm:xs.length<=8388608):aq 364 [.one (.J 1 (xs.map bc)),.one (.J 1 (ys.map bc))] [.one (I (mn (List.zipWith hA xs ys)))]:=by
 have bd:(List.zipWith hA xs ys).length=xs.length:=by simp[al]
 have l:=gv (P:=prog) (c:=(ap f364 0)) (List.zipWith hA xs ys) (fun d=>d != 0) (fun i=>xd (xs.map bc) (ys.map bc) i) (X:=fun _ d=>My d) e5 (cn 0)
  (fun i d aE h=>by
   obtain⟨a,b,ai,aw,rfl⟩:=UC aE;exact ay1 ⟨b5 (a1 ai),bA,bH (a1 ai),bC bc ai,ea (by have:=a1 aw;simp;omega),bA,bH (a1 aw),bC bc aw,UB a b,h,db (a1 ai) hm,aa⟩)
  (fun i d aE h=>by
   obtain⟨a,b,ai,aw,rfl⟩:=UC aE;exact ay0 ⟨b5 (a1 ai),bA,bH (a1 ai),bC bc ai,ea (by have:=a1 aw;simp;omega),bA,bH (a1 aw),bC bc aw,UB a b,h,aa⟩)
  (by rw[bd];exact ay2 ⟨dw,aa⟩)
 unfold mn;rcases l with⟨h1,_,_,U⟩ | ⟨i,a,_,_,h1,_,_,U⟩
 ·rw[h1];exact ay4 ⟨U,by simp[al],aa⟩
 rw[h1];exact ay3 ⟨U,aa⟩
theorem aAH(xs ys:List Int)(al:xs.length=ys.length)(hm:xs.length<=8388608):aq 335 [.one (.J 1 (xs.map bc)),.one (.J 1 (ys.map bc))] [.one (I (mn (List.zipWith hA xs ys)))]:=
 ay5 ⟨aAG xs ys al hm,aa⟩
def iN(a b:Cell):Int:=mn [hA a.a8 b.a8,hA a.op b.op,hA a.key b.key,hA a.val b.val]
theorem Hg(a b:Cell):aq 304 [.agg a.e,.agg b.e] [.one (I (iN a b))]:=
 aAh ⟨aAH [a.a8,a.op,a.key,a.val] [b.a8,b.op,b.key,b.val] rfl (by simp),aa⟩
theorem Hh(a b:Cell):aq 307 [.agg a.e,.agg b.e] [.one (I (iN a b))]:=by
 have cC:=uh a.a8 b.a8;have cg:=uh a.op b.op;have cL:=uh a.key b.key;have fo:=uh a.val b.val;unfold iN;generalize hA a.a8 b.a8=gP at*;generalize hA a.op b.op=gz at*;generalize hA a.key b.key=lI at*;generalize hA a.val b.val=rY at*;have l:=gv (P:=prog) (c:=(ap f307 0)) [gP,gz,lI,rY] (fun d=>d != 0) (fun i=>x3 gP gz lI rY i) (X:=fun _ d=>L8 d) e5 (cn 0)
  (fun i d aE h=>azq ⟨dh (by have:=a1 aE;simp at this;omega),bA,by have:=a1 aE;simp at this ⊢;omega,bC bc aE,h,⟨by omega,by have:=a1 aE;simp at this;omega⟩,aa⟩)
  (fun i d aE h=>azp ⟨dh (by have:=a1 aE;simp at this;omega),bA,by have:=a1 aE;simp at this ⊢;omega,bC bc aE,h,bA,by have:=a1 aE;simp at this ⊢;omega,bC bc aE,aa⟩)
  (azr ⟨rfl,aa⟩)
 unfold mn;rcases l with⟨h1,_,_,U⟩ | ⟨i,a,_,_,h1,_,_,U⟩
 ·rw[h1];exact aAT ⟨cC,cg,cL,fo,U,aa⟩
 rw[h1];exact aAS ⟨cC,cg,cL,fo,U,aa⟩
end Go.Proofs.YtdchjefneblpgaaGreat
namespace Go.Proofs.YtdchjefneblpgaaGreat
open Go.Sx Go.RowKit Go.Sort Go.Proofs.Tryz
def oU(u v:List Int):Int:=mn (List.zipWith hA u v)
theorem x6(d:Int)(l:List Int):mn (d::l)=if d=0 then mn l else d:=by
 unfold mn;by_cases h:d=0
 ·simp[h]
 simp[h]
theorem UD:∀(hz mm:List Int),mn (mn hz::mm)=mn (hz++mm)
 | [],mm=>by rw[x6];simp[mn]
 | d::hz,mm=>by
  rw[List.cons_append,x6 d (hz++mm),x6 d hz];by_cases h:d=0
  ·rw[bn h,bn h];exact UD hz mm
  rw[bw h,bw h,x6,bw h]
theorem aAI(a b:Int)(u v:List Int):oU (a::u) (b::v)=if a=b then oU u v else hA a b:=by
 unfold oU;rw[List.zipWith_cons_cons,x6];have:hA a b=0<->a=b:=by unfold hA;split<;>(try split)<;>constructor<;>intro h<;>omega
 by_cases h:a=b
 ·rw[bn (this.2 h),bn h]
 rw[bw (fun e=>h (this.1 e)),bw h]
theorem UE(a b:Int)(u v:List Int):oU (a::u) (b::v)<0<->a<b\/(a=b/\oU u v<0):=by
 rw[aAI];split
 ·constructor
  ·intro h;exact .inr ⟨‹_›,h⟩
  rintro (h | h)
  ·omega
  exact h.2
 ·unfold hA;split<;>(try split)<;>constructor<;>intro h<;>omega
theorem UF:∀(u v w:List Int),u.length=v.length->v.length=w.length->oU u v<0->oU v w<0->oU u w<0
 | [],[],[],_,_,h,_=>h
 | a::u,b::v,c::w,h1,U,aA,aJ=>by
  rw[UE] at*;have:=UF u v w (by simpa using h1) (by simpa using U);omega
theorem UG:∀(u v:List Int),u.length=v.length->¬oU u v<0->¬oU v u<0->u=v
 | [],[],_,_,_=>rfl
 | a::u,b::v,h1,aA,aJ=>by
  rw[UE]at aA aJ;have eb:a=b:=by omega
  subst eb;rw[UG u v (by simpa using h1) (by omega) (by omega)]
section
variable {α : Type}
def sD(lt:α->α->Bool)(x:α)(S:List α):Nat->Nat
 | 0=>0
 | k+1=>match S[k]? with | some y=>if lt x y then sD lt x S k else k+1 | none=>k+1
def w6(lt:α->α->Bool)(S:List α)(x:α):List α:=S.take (sD lt x S S.length)++x::S.drop (sD lt x S S.length)
def pM(lt:α->α->Bool)(xs:List α):List α:=xs.foldl (w6 lt) []
theorem UH(lt:α->α->Bool)(x:α)(S:List α):∀k,sD lt x S k<=k
 | 0=>fg _
 | k+1=>by
  simp only[sD];have:=UH lt x S k;split
  ·split<;>omega
  omega
theorem aAJ(lt:α->α->Bool)(S:List α)(x:α):(w6 lt S x).Perm (x::S):=by
 unfold w6;refine (List.perm_middle).trans ?_;rw[Ep]
theorem aAK(lt:α->α->Bool)(S:List α)(x:α):(w6 lt S x).length=S.length+1:=(aAJ lt S x).length_eq
abbrev aB5(lt:α->α->Bool)(S:List α):Prop:=S.Pairwise fun a b=>(!lt b a)=true
theorem aAL{lt:α->α->Bool}{xs:List α}{i:Nat}{a:α}(h:xs[i]?=some a):pM lt (xs.take (i+1))=w6 lt (pM lt (xs.take i)) a:=by
 simp[pM,qH,h,List.foldl_append]
theorem UI(lt:α->α->Bool):∀(xs S:List α),(xs.foldl (w6 lt) S).length=S.length+xs.length
 | [],S=>rfl
 | x::xs,S=>by
  rw[List.foldl_cons,UI lt xs,aAK,gQ];omega
end
end Go.Proofs.YtdchjefneblpgaaGreat
namespace Go.Proofs.YtdchjefneblpgaaGreat
open Go.Sx Go.RowKit Go.Proofs.Tryz
def lv{α:Type}(p:α->Bool)(xs:List α):Int:=match xs.findIdx? p with | some i=>i | none=>-1
theorem Mb{α:Type}(p:α->Bool)(xs:List α):decide (lv p xs>=0)=xs.any p:=by
 unfold lv;cases h:xs.findIdx? p with
 | none=>
  have:xs.any p=false:=by
   rw[ft];rw[IM]at h;exact fun a ai=>by simp[h a ai]
  rw[this];rfl
 | some i=>
  rw[uG]at h;obtain⟨hi,U,_⟩:=h;have:xs.any p=true:=oK.2 ⟨_,pU hi,U⟩;rw[this];simp
theorem aAM(xs:List aK)(p:aK->Bool)(g:Nat)(bj:List D)(al:xs.length<=8388608)(ak:gM prog g=true)(hp:∀x∈xs,aq g ([.agg x.e]++bj.map .one) [.one (B (p x))]):
  aq 289 [.one (.J 8 (xs.map aK.e)),.one (.cl g bj)] [.one (I (lv p xs))]:=by
 have k4:∀x∈xs,∀r,p x=r->aq g ([.agg x.e]++bj.map .one) [.one (B r)]:=fun x af r h=>h▸hp x af
 have l:=gv (P:=prog) (c:=(ap f289 0)) xs p (fun i=>xk (xs.map aK.e) g bj i) (X:=fun i _=>MB i) e5 (cn 0)
  (fun i a ai h=>ayo ⟨b5 (a1 ai),bA,bH (a1 ai),bC aK.e ai,ak,k4 a (c9 ai) false h,rfl,db (a1 ai) al,aa⟩)
  (fun i a ai h=>ayn ⟨b5 (a1 ai),bA,bH (a1 ai),bC aK.e ai,ak,k4 a (c9 ai) true h,rfl,aa⟩)
  (ayp ⟨dw,aa⟩)
 rcases l with⟨_,h1,_,U⟩ | ⟨i,a,_,_,_,h1,_,U⟩
 ·simp only[lv,h1];exact ayr ⟨U,aa⟩
 simp only[lv,h1];exact ayq ⟨U,aa⟩
theorem aAN(xs:List aK)(p:aK->Bool)(g:Nat)(bj:List D)(al:xs.length<=8388608)(ak:gM prog g=true)(hp:∀x∈xs,aq g ([.agg x.e]++bj.map .one) [.one (B (p x))]):
  aq 208 [.one (.J 8 (xs.map aK.e)),.one (.cl g bj)] [.one (B (xs.any p))]:=by
 rw[<-Mb];exact aAc ⟨aAM xs p g bj al ak hp,aa⟩
theorem aAO(xs:List az)(p:az->Bool)(g:Nat)(bj:List D)(al:xs.length<=8388608)(ak:gM prog g=true)(hp:∀x∈xs,aq g ([.agg x.e]++bj.map .one) [.one (B (p x))]):
  aq 330 [.one (.J 5 (xs.map az.e)),.one (.cl g bj)] [.one (I (lv p xs))]:=by
 have k4:∀x∈xs,∀r,p x=r->aq g ([.agg x.e]++bj.map .one) [.one (B r)]:=fun x af r h=>h▸hp x af
 have l:=gv (P:=prog) (c:=(ap f330 0)) xs p (fun i=>xX (xs.map az.e) g bj i) (X:=fun i _=>MC i) e5 (cn 0)
  (fun i a ai h=>azT ⟨b5 (a1 ai),bA,bH (a1 ai),bC az.e ai,ak,k4 a (c9 ai) false h,rfl,db (a1 ai) al,aa⟩)
  (fun i a ai h=>azS ⟨b5 (a1 ai),bA,bH (a1 ai),bC az.e ai,ak,k4 a (c9 ai) true h,rfl,aa⟩)
  (azU ⟨dw,aa⟩)
 rcases l with⟨_,h1,_,U⟩ | ⟨i,a,_,_,_,h1,_,U⟩
 ·simp only[lv,h1];exact azW ⟨U,aa⟩
 simp only[lv,h1];exact azV ⟨U,aa⟩
theorem aAP(xs:List az)(p:az->Bool)(g:Nat)(bj:List D)(al:xs.length<=8388608)(ak:gM prog g=true)(hp:∀x∈xs,aq g ([.agg x.e]++bj.map .one) [.one (B (p x))]):
  aq 291 [.one (.J 5 (xs.map az.e)),.one (.cl g bj)] [.one (B (xs.any p))]:=by
 rw[<-Mb];exact aAd ⟨aAO xs p g bj al ak hp,aa⟩
theorem aAQ(xs:List cx)(p:cx->Bool)(g:Nat)(bj:List D)(al:xs.length<=8388608)(ak:gM prog g=true)(hp:∀x∈xs,aq g ([.agg x.e]++bj.map .one) [.one (B (p x))]):
  aq 352 [.one (.J 2 (xs.map cx.e)),.one (.cl g bj)] [.one (I (lv p xs))]:=by
 have k4:∀x∈xs,∀r,p x=r->aq g ([.agg x.e]++bj.map .one) [.one (B r)]:=fun x af r h=>h▸hp x af
 have l:=gv (P:=prog) (c:=(ap f352 0)) xs p (fun i=>xY (xs.map cx.e) g bj i) (X:=fun i _=>L3 i) e5 (cn 0)
  (fun i a ai h=>azY ⟨b5 (a1 ai),bA,bH (a1 ai),bC cx.e ai,ak,k4 a (c9 ai) false h,rfl,db (a1 ai) al,aa⟩)
  (fun i a ai h=>azX ⟨b5 (a1 ai),bA,bH (a1 ai),bC cx.e ai,ak,k4 a (c9 ai) true h,rfl,aa⟩)
  (azZ ⟨dw,aa⟩)
 rcases l with⟨_,h1,_,U⟩ | ⟨i,a,_,_,_,h1,_,U⟩
 ·simp only[lv,h1];exact az1 ⟨U,aa⟩
 simp only[lv,h1];exact az0 ⟨U,aa⟩
theorem aAR(xs:List cx)(p:cx->Bool)(g:Nat)(bj:List D)(al:xs.length<=8388608)(ak:gM prog g=true)(hp:∀x∈xs,aq g ([.agg x.e]++bj.map .one) [.one (B (p x))]):
  aq 328 [.one (.J 2 (xs.map cx.e)),.one (.cl g bj)] [.one (B (xs.any p))]:=by
 rw[<-Mb];exact aAe ⟨aAQ xs p g bj al ak hp,aa⟩
theorem aAi(xs:List bT)(p:bT->Bool)(g:Nat)(bj:List D)(al:xs.length<=8388608)(ak:gM prog g=true)(hp:∀x∈xs,aq g ([.agg x.e]++bj.map .one) [.one (B (p x))]):
  aq 290 [.one (.J 3 (xs.map bT.e)),.one (.cl g bj)] [.one (I (lv p xs))]:=by
 have k4:∀x∈xs,∀r,p x=r->aq g ([.agg x.e]++bj.map .one) [.one (B r)]:=fun x af r h=>h▸hp x af
 have l:=gv (P:=prog) (c:=(ap f290 0)) xs p (fun i=>xZ (xs.map bT.e) g bj i) (X:=fun i _=>L4 i) e5 (cn 0)
  (fun i a ai h=>az3 ⟨b5 (a1 ai),bA,bH (a1 ai),bC bT.e ai,ak,k4 a (c9 ai) false h,rfl,db (a1 ai) al,aa⟩)
  (fun i a ai h=>az2 ⟨b5 (a1 ai),bA,bH (a1 ai),bC bT.e ai,ak,k4 a (c9 ai) true h,rfl,aa⟩)
  (az4 ⟨dw,aa⟩)
 rcases l with⟨_,h1,_,U⟩ | ⟨i,a,_,_,_,h1,_,U⟩
 ·simp only[lv,h1];exact az6 ⟨U,aa⟩
 simp only[lv,h1];exact az5 ⟨U,aa⟩
theorem aAj(xs:List Cell)(p:Cell->Bool)(g:Nat)(bj:List D)(al:xs.length<=8388608)(ak:gM prog g=true)(hp:∀x∈xs,aq g ([.agg x.e]++bj.map .one) [.one (B (p x))]):
  aq 375 [.one (.J 4 (xs.map Cell.e)),.one (.cl g bj)] [.one (I (lv p xs))]:=by
 have k4:∀x∈xs,∀r,p x=r->aq g ([.agg x.e]++bj.map .one) [.one (B r)]:=fun x af r h=>h▸hp x af
 have l:=gv (P:=prog) (c:=(ap f375 0)) xs p (fun i=>x0 (xs.map Cell.e) g bj i) (X:=fun i _=>L5 i) e5 (cn 0)
  (fun i a ai h=>az8 ⟨b5 (a1 ai),bA,bH (a1 ai),bC Cell.e ai,ak,k4 a (c9 ai) false h,rfl,db (a1 ai) al,aa⟩)
  (fun i a ai h=>az7 ⟨b5 (a1 ai),bA,bH (a1 ai),bC Cell.e ai,ak,k4 a (c9 ai) true h,rfl,aa⟩)
  (az9 ⟨dw,aa⟩)
 rcases l with⟨_,h1,_,U⟩ | ⟨i,a,_,_,_,h1,_,U⟩
 ·simp only[lv,h1];exact aAb ⟨U,aa⟩
 simp only[lv,h1];exact aAa ⟨U,aa⟩
