import Derived.Test.YtdchjefneblpgaaGreatT2
import Derived.Test.YtdchjefneblpgaaGreatGN
import Derived.Sort.Statements
import Derived.Shelf.SlSortCmp.Insertion
set_option linter.unusedVariables false
set_option linter.unusedSimpArgs false
namespace Go.Proofs.YtdchjefneblpgaaGreat
open Go.Sx Go.RowKit Go.Proofs.Tryz
def ap(n cW hi:Int):Bool:=decide (cW<=n/\n<=hi)
theorem jl(n cW hi:Int):aw 168 [.one (I n),.one (I cW),.one (I hi)] [.one (B (ap n cW hi))]:=by
 by_cases h:cW<=n
 ·have e:ap n cW hi=decide (n<=hi):=by simp[ap,h]
  rw[e];exact apM ⟨by simp only[b'];omega,ae⟩
 rw[show ap n cW hi=false by simp[ap,h]];exact apN ⟨by simp only[lr];omega,ae⟩
theorem fe{n cW hi:Int}(r:Bool)(h:ap n cW hi=r):aw 168 [.one (I n),.one (I cW),.one (I hi)] [.one (B r)]:=h▸jl n cW hi
theorem lL(n cW hi:Int):aw 190 [.one (I n),.one (I cW),.one (I hi)] [.one (B (ap n cW hi))]:=by
 by_cases h:cW<=n
 ·have e:ap n cW hi=decide (n<=hi):=by simp[ap,h]
  rw[e];exact apK ⟨by simp only[b'];omega,ae⟩
 rw[show ap n cW hi=false by simp[ap,h]];exact apL ⟨by simp only[lr];omega,ae⟩
theorem hN{n cW hi:Int}(r:Bool)(h:ap n cW hi=r):aw 190 [.one (I n),.one (I cW),.one (I hi)] [.one (B r)]:=h▸lL n cW hi
def gr(n cW hi:Int):Int:=if hi<cW then cW else if n<cW then cW else if hi<n then hi else n
theorem Fk(n cW hi:Int):aw 130 [.one (I n),.one (I cW),.one (I hi)] [.one (I (gr n cW hi))]:=by
 unfold gr;by_cases h1:hi<cW
 ·rw[aZ h1];exact aoq ⟨by simpa using h1,ae⟩
 rw[a6 h1];by_cases U:n<cW
 ·rw[aZ U];exact aor ⟨by simpa using h1,by simpa using U,ae⟩
 rw[a6 U];by_cases ax:hi<n
 ·rw[aZ ax];exact aos ⟨by simpa using h1,by simpa using U,by simpa using ax,ae⟩
 rw[a6 ax];exact aot ⟨by simpa using h1,by simpa using U,by simpa using ax,ae⟩
theorem RS(n cW hi:Int):aw 167 [.one (I n),.one (I cW),.one (I hi)] [.one (I (gr n cW hi))]:=by
 unfold gr;by_cases h1:hi<cW
 ·rw[aZ h1];exact aou ⟨by simpa using h1,ae⟩
 rw[a6 h1];by_cases U:n<cW
 ·rw[aZ U];exact aov ⟨by simpa using h1,by simpa using U,ae⟩
 rw[a6 U];exact aow ⟨by simpa using h1,by simpa using U,ae⟩
theorem aE.flat(r:aE):∀d∈r.e,∃x,d=.v x:=by
 intro d aB;simp only[aE.e,et,qt,or_false]at aB;rcases aB with rfl | rfl | rfl | rfl | rfl<;>exact⟨_,rfl⟩
theorem Cell.flat(r:Cell):∀d∈r.e,∃x,d=.v x:=by
 intro d aB;simp only[Cell.e,et,qt,or_false]at aB;rcases aB with rfl | rfl | rfl | rfl<;>exact⟨_,rfl⟩
theorem b9.flat(r:b9):∀d∈r.e,∃x,d=.v x:=by
 intro d aB;simp only[b9.e,et,qt,or_false]at aB;rcases aB with rfl | rfl | rfl<;>exact⟨_,rfl⟩
theorem hT.flat(r:hT):∀d∈r.e,∃x,d=.v x:=by
 intro d aB;simp only[hT.e,et,qt,or_false]at aB;rcases aB with rfl | rfl<;>exact⟨_,rfl⟩
theorem Fl{α:Type}(p:α->Bool)(xs:List α)(i:Nat):((xs.take i).filter p).length<=i:=
 n1 (qq ..) (by simp;omega)
theorem Mo(a r:Cell):(a.op==r.op&&(a.a7==r.a7&&(a.key==r.key&&a.val==r.val)))=decide (a=r):=by
 obtain⟨o,e,k,v⟩:=a;obtain⟨p7,e',cb,k4⟩:=r;rw[Bool.eq_iff_iff];simp only[b8,dp,b',Cell.mk.injEq]
theorem RT(a r:Cell):(r.op==a.op&&(r.a7==a.a7&&(r.key==a.key&&r.val==a.val)))=decide (a=r):=by
 rw[Mo r a];exact decide_eq_decide.2 ⟨Eq.symm,Eq.symm⟩
theorem x2{P:Program}{c:Code}{st:aG}{e:h'}{α:Type}(f:α->aG){l g':α}(h:gA P c st e (f l))(aj:l=g'):gA P c st e (f g'):=aj▸h
theorem ar1{P:Program}{f:Nat}{args:List cK}{k:Nat}{l g':List (List D)}(h:ja P f args [.one (.J k l)])(aj:l=g'):ja P f args [.one (.J k g')]:=aj▸h
theorem zH{α β:Type}(f:α->List β)(c:Nat)(h:∀a,(f a).length<=c):∀xs:List α,(xs.flatMap f).length<=xs.length*c
 | []=>by simp
 | a::xs=>by
  have h1:=h a;have U:=zH f c h xs;simp only[List.flatMap_cons,k7,dJ,fX,Nat.one_mul];omega
theorem dr{p:Prop}[Decidable p](h:p):decide p=true:=nh h
theorem ee{p:Prop}[Decidable p](h:¬p):decide p=false:=oN h
end Go.Proofs.YtdchjefneblpgaaGreat
namespace Go.Proofs.YtdchjefneblpgaaGreat
open Go.Sx Go.RowKit Go.Proofs.Tryz
def kg(a b:Int):Int:=if a<b then -1 else if b<a then 1 else 0
def tI(l:List Int):Int:=(l.find? (· != 0)).getD 0
theorem Fm(a b:Int):aw 322 [.one (I a),.one (I b)] [.one (I (kg a b))]:=by
 unfold kg;by_cases h:a<b
 ·rw[aZ h];exact apO ⟨dr h,ae⟩
 rw[a6 h];by_cases U:b<a
 ·rw[aZ U];exact apP ⟨ee h,dr U,ae⟩
 rw[a6 U];exact apQ ⟨ee h,ee U,ae⟩
theorem RU(a:Int):aw 388 [.one (I a)] [.one (B false)]:=by
 have:=apR a trivial;simpa using this
theorem RV(a b:Int):aw 382 [.one (I a),.one (I b)] [.one (I (kg a b))]:=by
 have x:=RU a;have y:=RU b;unfold kg;by_cases h:a<b
 ·rw[aZ h];exact apS ⟨x,y,rfl,rfl,dr h,ae⟩
 rw[a6 h];by_cases U:b<a
 ·rw[aZ U];exact apT ⟨x,y,rfl,rfl,ee h,dr U,ae⟩
 rw[a6 U];exact apU ⟨x,y,rfl,rfl,ee h,ee U,ae⟩
theorem To{xs ys:List Int}{i:Nat}{d:Int}(h:(List.zipWith kg xs ys)[i]?=some d):∃a b,xs[i]?=some a/\ys[i]?=some b/\kg a b=d:=by
 rw[List.getElem?_zipWith]at h;cases h1:xs[i]? with
 | none=>simp[h1]at h
 | some a=>
  cases U:ys[i]? with
  | none=>simp[h1,U]at h
  | some b=>exact⟨a,b,rfl,rfl,by simpa[h1,U]using h⟩
theorem ar2(xs ys:List Int)(aj:xs.length=ys.length)(hm:xs.length<=8388608):aw 364 [.one (.J 1 (xs.map ba)),.one (.J 1 (ys.map ba))] [.one (I (tI (List.zipWith kg xs ys)))]:=by
 have aW:(List.zipWith kg xs ys).length=xs.length:=by simp[aj]
 have l:=hv (P:=prog) (c:=(av f364 0)) (List.zipWith kg xs ys) (fun d=>d != 0) (fun i=>xk (xs.map ba) (ys.map ba) i) (X:=fun _ d=>KM d) fl (cL 0)
  (fun i d aB h=>by
   obtain⟨a,b,ad,ao,rfl⟩:=To aB;exact apW ⟨b4 (aX ad),bH,bL (aX ad),bI ba ad,ee (by have:=aX ao;simp;omega),bH,bL (aX ao),bI ba ao,RV a b,h,du (aX ad) hm,ae⟩)
  (fun i d aB h=>by
   obtain⟨a,b,ad,ao,rfl⟩:=To aB;exact apV ⟨b4 (aX ad),bH,bL (aX ad),bI ba ad,ee (by have:=aX ao;simp;omega),bH,bL (aX ao),bI ba ao,RV a b,h,ae⟩)
  (by rw[aW];exact apX ⟨ec,ae⟩)
 unfold tI;rcases l with⟨h1,_,_,U⟩ | ⟨i,a,_,_,h1,_,_,U⟩
 ·rw[h1];exact apZ ⟨U,by simp[aj],ae⟩
 rw[h1];exact apY ⟨U,ae⟩
theorem ar3(xs ys:List Int)(aj:xs.length=ys.length)(hm:xs.length<=8388608):aw 335 [.one (.J 1 (xs.map ba)),.one (.J 1 (ys.map ba))] [.one (I (tI (List.zipWith kg xs ys)))]:=
 ap0 ⟨ar2 xs ys aj hm,ae⟩
def iO(a b:Cell):Int:=tI [kg a.a7 b.a7,kg a.op b.op,kg a.key b.key,kg a.val b.val]
theorem Fo(a b:Cell):aw 304 [.agg a.e,.agg b.e] [.one (I (iO a b))]:=
 aqK ⟨ar3 [a.a7,a.op,a.key,a.val] [b.a7,b.op,b.key,b.val] rfl (by simp),ae⟩
theorem Fp(a b:Cell):aw 307 [.agg a.e,.agg b.e] [.one (I (iO a b))]:=by
 have dR:=Fm a.a7 b.a7;have dH:=Fm a.op b.op;have gF:=Fm a.key b.key;have ph:=Fm a.val b.val;unfold iO;generalize kg a.a7 b.a7=hG at*;generalize kg a.op b.op=gd at*;generalize kg a.key b.key=jw at*;generalize kg a.val b.val=uo at*;have l:=hv (P:=prog) (c:=(av f307 0)) [hG,gd,jw,uo] (fun d=>d != 0) (fun i=>wU hG gd jw uo i) (X:=fun _ d=>Mm d) fl (cL 0)
  (fun i d aB h=>aqt ⟨dr (by have:=aX aB;simp at this;omega),bH,by have:=aX aB;simp at this ⊢;omega,bI ba aB,h,⟨by omega,by have:=aX aB;simp at this;omega⟩,ae⟩)
  (fun i d aB h=>aqs ⟨dr (by have:=aX aB;simp at this;omega),bH,by have:=aX aB;simp at this ⊢;omega,bI ba aB,h,bH,by have:=aX aB;simp at this ⊢;omega,bI ba aB,ae⟩)
  (aqu ⟨rfl,ae⟩)
 unfold tI;rcases l with⟨h1,_,_,U⟩ | ⟨i,a,_,_,h1,_,_,U⟩
 ·rw[h1];exact aqw ⟨dR,dH,gF,ph,U,ae⟩
 rw[h1];exact aqv ⟨dR,dH,gF,ph,U,ae⟩
end Go.Proofs.YtdchjefneblpgaaGreat
namespace Go.Proofs.YtdchjefneblpgaaGreat
open Go.Sx Go.RowKit Go.Sort Go.Proofs.Tryz
def qB(u v:List Int):Int:=tI (List.zipWith kg u v)
theorem ar4(d:Int)(l:List Int):tI (d::l)=if d=0 then tI l else d:=by
 unfold tI;by_cases h:d=0
 ·simp[h]
 simp[h]
theorem ar5(a b:Int)(u v:List Int):qB (a::u) (b::v)=if a=b then qB u v else kg a b:=by
 unfold qB;rw[List.zipWith_cons_cons,ar4];have:kg a b=0<->a=b:=by unfold kg;split<;>(try split)<;>constructor<;>intro h<;>omega
 by_cases h:a=b
 ·rw[aZ (this.2 h),aZ h]
 rw[a6 (fun e=>h (this.1 e)),a6 h]
theorem Tp(a b:Int)(u v:List Int):qB (a::u) (b::v)<0<->a<b\/(a=b/\qB u v<0):=by
 rw[ar5];split
 ·constructor
  ·intro h;exact .inr ⟨‹_›,h⟩
  rintro (h | h)
  ·omega
  exact h.2
 ·unfold kg;split<;>(try split)<;>constructor<;>intro h<;>omega
theorem Tq:∀(u v w:List Int),u.length=v.length->v.length=w.length->qB u v<0->qB v w<0->qB u w<0
 | [],[],[],_,_,h,_=>h
 | a::u,b::v,c::w,h1,U,ax,aF=>by
  rw[Tp] at*;have:=Tq u v w (by simpa using h1) (by simpa using U);omega
theorem Tr:∀(u v:List Int),u.length=v.length->¬qB u v<0->¬qB v u<0->u=v
 | [],[],_,_,_=>rfl
 | a::u,b::v,h1,ax,aF=>by
  rw[Tp]at ax aF;have dD:a=b:=by omega
  subst dD;rw[Tr u v (by simpa using h1) (by omega) (by omega)]
section
variable {α : Type}
abbrev avZ(lt:α->α->Bool)(S:List α):Prop:=S.Pairwise fun a b=>(!lt b a)=true
end
end Go.Proofs.YtdchjefneblpgaaGreat
namespace Go.Proofs.YtdchjefneblpgaaGreat
open Go.Sx Go.RowKit Go.Proofs.Tryz
def mN{α:Type}(p:α->Bool)(xs:List α):Int:=match xs.findIdx? p with | some i=>i | none=>-1
theorem Ts{α:Type}(p:α->Bool)(xs:List α):decide (mN p xs>=0)=xs.any p:=by
 unfold mN;cases h:xs.findIdx? p with
 | none=>
  have:xs.any p=false:=by
   rw[ff];rw[Dq]at h;exact fun a ad=>by simp[h a ad]
  rw[this];rfl
 | some i=>
  rw[uq]at h;obtain⟨hi,U,_⟩:=h;have:xs.any p=true:=l9.2 ⟨_,pK hi,U⟩;rw[this];simp
theorem ar6(xs:List aE)(p:aE->Bool)(g:Nat)(bm:List D)(aj:xs.length<=8388608)(af:hL prog g=true)(hp:∀x∈xs,aw g ([.agg x.e]++bm.map .one) [.one (B (p x))]):
  aw 330 [.one (.J 5 (xs.map aE.e)),.one (.cl g bm)] [.one (I (mN p xs))]:=by
 have mi:∀x∈xs,∀r,p x=r->aw g ([.agg x.e]++bm.map .one) [.one (B r)]:=fun x aa r h=>h▸hp x aa
 have l:=hv (P:=prog) (c:=(av f330 0)) xs p (fun i=>xp (xs.map aE.e) g bm i) (X:=fun i _=>Mg i) fl (cL 0)
  (fun i a ad h=>apx ⟨b4 (aX ad),bH,bL (aX ad),bI aE.e ad,af,mi a (cG ad) false h,rfl,du (aX ad) aj,ae⟩)
  (fun i a ad h=>apw ⟨b4 (aX ad),bH,bL (aX ad),bI aE.e ad,af,mi a (cG ad) true h,rfl,ae⟩)
  (apy ⟨ec,ae⟩)
 rcases l with⟨_,h1,_,U⟩ | ⟨i,a,_,_,_,h1,_,U⟩
 ·simp only[mN,h1];exact apA ⟨U,ae⟩
 simp only[mN,h1];exact apz ⟨U,ae⟩
theorem arf(xs:List aE)(p:aE->Bool)(g:Nat)(bm:List D)(aj:xs.length<=8388608)(af:hL prog g=true)(hp:∀x∈xs,aw g ([.agg x.e]++bm.map .one) [.one (B (p x))]):
  aw 291 [.one (.J 5 (xs.map aE.e)),.one (.cl g bm)] [.one (B (xs.any p))]:=by
 rw[<-Ts];exact aqG ⟨ar6 xs p g bm aj af hp,ae⟩
theorem arh(xs:List cD)(p:cD->Bool)(g:Nat)(bm:List D)(aj:xs.length<=8388608)(af:hL prog g=true)(hp:∀x∈xs,aw g ([.agg x.e]++bm.map .one) [.one (B (p x))]):
  aw 352 [.one (.J 2 (xs.map cD.e)),.one (.cl g bm)] [.one (I (mN p xs))]:=by
 have mi:∀x∈xs,∀r,p x=r->aw g ([.agg x.e]++bm.map .one) [.one (B r)]:=fun x aa r h=>h▸hp x aa
 have l:=hv (P:=prog) (c:=(av f352 0)) xs p (fun i=>xq (xs.map cD.e) g bm i) (X:=fun i _=>Mh i) fl (cL 0)
  (fun i a ad h=>apC ⟨b4 (aX ad),bH,bL (aX ad),bI cD.e ad,af,mi a (cG ad) false h,rfl,du (aX ad) aj,ae⟩)
  (fun i a ad h=>apB ⟨b4 (aX ad),bH,bL (aX ad),bI cD.e ad,af,mi a (cG ad) true h,rfl,ae⟩)
  (apD ⟨ec,ae⟩)
 rcases l with⟨_,h1,_,U⟩ | ⟨i,a,_,_,_,h1,_,U⟩
 ·simp only[mN,h1];exact ao4 ⟨U,ae⟩
 simp only[mN,h1];exact ao3 ⟨U,ae⟩
theorem ari(xs:List cD)(p:cD->Bool)(g:Nat)(bm:List D)(aj:xs.length<=8388608)(af:hL prog g=true)(hp:∀x∈xs,aw g ([.agg x.e]++bm.map .one) [.one (B (p x))]):
  aw 328 [.one (.J 2 (xs.map cD.e)),.one (.cl g bm)] [.one (B (xs.any p))]:=by
 rw[<-Ts];exact aqH ⟨arh xs p g bm aj af hp,ae⟩
theorem arj(xs:List bT)(p:bT->Bool)(g:Nat)(bm:List D)(aj:xs.length<=8388608)(af:hL prog g=true)(hp:∀x∈xs,aw g ([.agg x.e]++bm.map .one) [.one (B (p x))]):
  aw 290 [.one (.J 3 (xs.map bT.e)),.one (.cl g bm)] [.one (I (mN p xs))]:=by
 have mi:∀x∈xs,∀r,p x=r->aw g ([.agg x.e]++bm.map .one) [.one (B r)]:=fun x aa r h=>h▸hp x aa
 have l:=hv (P:=prog) (c:=(av f290 0)) xs p (fun i=>xr (xs.map bT.e) g bm i) (X:=fun i _=>Mi i) fl (cL 0)
  (fun i a ad h=>ao6 ⟨b4 (aX ad),bH,bL (aX ad),bI bT.e ad,af,mi a (cG ad) false h,rfl,du (aX ad) aj,ae⟩)
  (fun i a ad h=>ao5 ⟨b4 (aX ad),bH,bL (aX ad),bI bT.e ad,af,mi a (cG ad) true h,rfl,ae⟩)
  (ao7 ⟨ec,ae⟩)
 rcases l with⟨_,h1,_,U⟩ | ⟨i,a,_,_,_,h1,_,U⟩
 ·simp only[mN,h1];exact ao9 ⟨U,ae⟩
 simp only[mN,h1];exact ao8 ⟨U,ae⟩
theorem ark(xs:List Cell)(p:Cell->Bool)(g:Nat)(bm:List D)(aj:xs.length<=8388608)(af:hL prog g=true)(hp:∀x∈xs,aw g ([.agg x.e]++bm.map .one) [.one (B (p x))]):
  aw 375 [.one (.J 4 (xs.map Cell.e)),.one (.cl g bm)] [.one (I (mN p xs))]:=by
 have mi:∀x∈xs,∀r,p x=r->aw g ([.agg x.e]++bm.map .one) [.one (B r)]:=fun x aa r h=>h▸hp x aa
 have l:=hv (P:=prog) (c:=(av f375 0)) xs p (fun i=>xt (xs.map Cell.e) g bm i) (X:=fun i _=>Mj i) fl (cL 0)
  (fun i a ad h=>apb ⟨b4 (aX ad),bH,bL (aX ad),bI Cell.e ad,af,mi a (cG ad) false h,rfl,du (aX ad) aj,ae⟩)
  (fun i a ad h=>apa ⟨b4 (aX ad),bH,bL (aX ad),bI Cell.e ad,af,mi a (cG ad) true h,rfl,ae⟩)
  (apc ⟨ec,ae⟩)
 rcases l with⟨_,h1,_,U⟩ | ⟨i,a,_,_,_,h1,_,U⟩
 ·simp only[mN,h1];exact aqF ⟨U,ae⟩
 simp only[mN,h1];exact aqE ⟨U,ae⟩
