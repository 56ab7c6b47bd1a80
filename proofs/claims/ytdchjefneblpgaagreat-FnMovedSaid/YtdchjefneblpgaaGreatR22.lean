import Derived.Test.YtdchjefneblpgaaGreatR15
set_option linter.unusedVariables false
set_option linter.unusedSimpArgs false
namespace Go.Sx
open Go.RowKit
def fF.leaf(t:Nat):fF->aB
 | .ro d=>d.leaf .free
 | .hf k es _=>.J (.own t) k es
def tH(i:Nat):Nat->List fF->List aB
 | _,[]=>[]
 | j,c::cs=>c.leaf (fg i j)::tH i (j+1) cs
def GA.aJ(i:Nat):GA->bq
 | .one c=>.one (c.leaf (fg i 0))
 | .agg cs=>.agg (tH i 0 cs)
def sR:Nat->List GA->List aI
 | _,[]=>[]
 | i,a::as=>.aJ (a.aJ i)::sR (i+1) as
def wY(args:List GA)(ntmps:Nat):aH:=⟨sR 0 args++List.replicate (ntmps-args.length) .cp,[]⟩
def fF.post:fF->aB->fF
 | .hf k es (some _),.J (.own _) cm cv=>if cm=k then .hf k es (some cv) else .hf k es none
 | .hf k es _,_=>.hf k es none
 | c,_=>c
def M0(args:List GA):Bool:=args.all fun | .one _=>true | .agg cs=>decide (cs.length<=100)
def M1(args:List GA)(t:Nat):Nat:=
 match (args[(t-c3) / 100]?).bind (GA.cell ((t-c3) % 100)) with
 | some (.hf k _ _)=>k
 | _=>0
def yr(args:List GA)(vs:Array Value)(t:Nat):Nat×Value:=(M1 args t,cellOf (vs.getD ((t-c3) / 100) undef) ((t-c3) % 100))
theorem FJ{args:List GA}{vs:Array Value}{i j:Nat}(a':j<100){eM:GA}(aj:args[i]?=some eM){k:Nat}{es:List (List D)}{post:Option (List (List D))}(ah:eM.cell j=some (.hf k es post)):
  yr args vs (fg i j)=(k,cellOf (vs.getD i undef) j):=by
 have e1:(fg i j-c3) / 100=i:=by simp only[fg];omega
 have e2:(fg i j-c3) % 100=j:=by simp only[fg];omega
 simp only[yr,M1,e1,e2,aj,l1,ah]
theorem PR(i:Nat):∀(cs:List fF) (j x:Nat),(tH i j cs)[x]?=(cs[x]?).map fun c=>c.leaf (fg i (j+x))
 | [],j,x=>by simp[tH]
 | c::cs,j,0=>by simp[tH]
 | c::cs,j,x+1=>by
  simp only[tH,n1,PR i cs (j+1) x];rw[show j+1+x=j+(x+1) by omega]
theorem PS(i:Nat):∀(cs:List fF) (j:Nat),(tH i j cs).length=cs.length
 | [],_=>rfl
 | c::cs,j=>by simp[tH,PS i cs (j+1)]
theorem PT:∀(as:List GA) (i x:Nat),(sR i as)[x]?=(as[x]?).map fun a=>.aJ (a.aJ (i+x))
 | [],i,x=>by simp[sR]
 | a::as,i,0=>by simp[sR]
 | a::as,i,x+1=>by
  simp only[sR,n1,PT as (i+1) x];rw[show i+1+x=i+(x+1) by omega]
theorem Iu:∀(as:List GA) (i:Nat),(sR i as).length=as.length
 | [],_=>rfl
 | a::as,i=>by simp[sR,Iu as (i+1)]
theorem uw.sat{w:World}{ω:Own}{τ:Nat->Nat×Value}{t:Nat}{c:fF}{y:Value}(h:uw w ω t c y)(r0:∀k es post,c=.hf k es post->τ t=(k,y)):Sat w ω τ (c.leaf t) y:=by
 cases c with
 | ro d=>exact D.dy (t:=.free) (p:=(0,0)) h
 | hf k es post=>exact⟨h,r0 k es post rfl⟩
theorem aj3{w:World}{ω:Own}{args:List GA}{vs:Array Value}(ev:M0 args=true)(h:Fo w ω args vs)(rW:Tidy w ω)(ntmps:Nat):
  Rel ⟨w,fun b=>ω b≠.bE,yr args vs⟩ (wY args ntmps) { tmps:=vs++Array.replicate (ntmps-vs.size) undef,defers:=[] } w:=by
 obtain⟨au,aT,aj⟩:=h;refine⟨ω,yr args vs,rfl,by simp[wY,aT,Iu],gO.start rW,fun b aq=>⟨.inr aq,(au b aq).2⟩,fun _ _=>rfl,(fun id b _ aq=>by
  obtain⟨⟨t,q,e,_⟩,_⟩:=au b (by rw[aq];simp);rw[aq]at e;cases e),?_,fun id ls ak=>by simp[wY,dn]at ak⟩
 intro i p hp;simp only[wY]at hp;rw[kB,Iu]at hp;split at hp
 ·rename_i hi;rw[PT,b0]at hp;obtain⟨eM,sX,rfl⟩:=hp;rw[dx];obtain⟨v,bA,cG⟩:=aj i eM sX;have k9:i<vs.size:=by omega
  refine⟨v,by rw[jI,br k9,bA],?_⟩;have NW:vs.getD i undef=v:=by simp[d',bA]
  cases eM with
  | one c=>
   refine uw.sat cG fun k es post ah=>?_
   have:=FJ (args:=args) (vs:=vs) (i:=i) (j:=0) (by omega) sX (k:=k) (es:=es) (post:=post) (by simp[GA.cell,ah]);rw[this,NW];subst ah;have aD:bW w ω (Tag.own (fg i 0)).R (.J k es) v:=cG;obtain⟨b,c,rfl⟩:=aD.len;rfl
  | agg cs=>
   obtain⟨us,rfl,hlen,ow⟩:=cG;refine⟨us,rfl,by rw[PS];exact hlen,fun j l ak=>?_⟩;rw[PR,b0]at ak;obtain⟨c,ah,rfl⟩:=ak;rw[dx];obtain⟨u,hu,cG⟩:=ow j c ah;have a':j<100:=by
    have h1:=fv.1 ev _ (fp sX);simp only[cK]at h1;have:=(eu.1 ah).1;omega
   refine⟨u,hu,uw.sat cG fun k es post e=>?_⟩;rw[FJ (args:=args) (vs:=vs) a' sX (k:=k) (es:=es) (post:=post) (by simp only[GA.cell,ah,e]),NW];simp[cellOf,Value.cells,d',hu]
 rename_i hi;rw[Bu]at hp;split at hp
 ·rename_i bC;simp only[aQ]at hp;subst hp;refine⟨undef,?_,aa⟩;rw[jI,bg (by omega),Array.getElem?_replicate,br (by omega)]
 cases hp
end Go.Sx
namespace Go.Sx
open Go.RowKit
def fF.found(t:Nat):fF->Option aB->fF×hL
 | .ro d,_=>(.ro d,[])
 | .hf k es (some _),some (.J (.own s) cm cv)=>if s=t/\cm=k then (.hf k es (some cv),[(t,t)]) else (.hf k es none,[])
 | .hf k es _,_=>(.hf k es none,[])
def mL(i:Nat):Nat->List fF->List aB->List fF×hL
 | _,[],_=>([],[])
 | j,c::cs,ls=>((c.found (fg i j) ls.head?).1::(mL i (j+1) cs ls.tail).1,(c.found (fg i j) ls.head?).2++(mL i (j+1) cs ls.tail).2)
def GA.found(i:Nat):GA->aI->GA×hL
 | .one c,p=>(.one (c.found (fg i 0) p.leaf).1,(c.found (fg i 0) p.leaf).2)
 | .agg cs,.aJ (.agg ls)=>(.agg (mL i 0 cs ls).1,(mL i 0 cs ls).2)
 | .agg cs,_=>(.agg (mL i 0 cs []).1,(mL i 0 cs []).2)
def kz:Nat->List GA->List aI->List GA×hL
 | _,[],_=>([],[])
 | i,a::as,ct=>((a.found i (ct.headD .cp)).1::(kz (i+1) as ct.tail).1,(a.found i (ct.headD .cp)).2++(kz (i+1) as ct.tail).2)
theorem fF.B1{t:Nat}{c:fF}{l:Option aB}{k:Nat}{es cv:List (List D)}(h:(c.found t l).1=.hf k es (some cv)):l=some (.J (.own t) k cv)/\(t,t)∈(c.found t l).2:=by
 unfold fF.found at h ⊢;split at h
 ·cases h
 ·rename_i dh dz p s cm ate;split at h
  ·rename_i ah;obtain⟨rfl,rfl⟩:=ah;simp only[fF.hf.injEq,aQ]at h;obtain⟨rfl,_,rfl⟩:=h;exact⟨rfl,by simp⟩
  cases h
 cases h
theorem Iv(i:Nat):∀{cs:List fF} {ls:List aB} {j x k:Nat} {es cv:List (List D)},(mL i j cs ls).1[x]?=some (.hf k es (some cv))->
  ls[x]?=some (.J (.own (fg i (j+x))) k cv)/\(fg i (j+x),fg i (j+x))∈(mL i j cs ls).2
 | [],ls,j,x,k,es,cv,h=>by simp[mL]at h
 | c::cs,ls,j,0,k,es,cv,h=>by
  simp only[mL,j2,aQ]at h;obtain⟨h1,U⟩:=fF.B1 h;refine⟨by cases ls<;>simp_all,?_⟩;simp only[mL];exact hZ _ U
 | c::cs,ls,j,x+1,k,es,cv,h=>by
  simp only[mL,n1]at h;obtain⟨h1,U⟩:=Iv i h;rw[show j+1+x=j+(x+1) by omega]at h1 U;refine⟨by cases ls<;>simp_all,?_⟩;simp only[mL];exact iz _ U
def xA(j:Nat):bq->Option aB
 | .one l=>if j=0 then some l else none
 | .agg ls=>ls[j]?
theorem GA.B1{i j:Nat}{a:GA}{p:aI}{k:Nat}{es cv:List (List D)}(h:(a.found i p).1.cell j=some (.hf k es (some cv))):
  ∃aJ,p=.aJ aJ/\xA j aJ=some (.J (.own (fg i j)) k cv)/\(fg i j,fg i j)∈(a.found i p).2:=by
 cases a with
 | one c=>
  simp only[GA.found,GA.cell]at h ⊢;split at h
  ·rename_i a';subst a';simp only[aQ]at h;obtain⟨h1,U⟩:=fF.B1 h;cases p with
   | fE as=>cases h1
   | aJ a=>
    cases a with
    | agg ls=>cases h1
    | one l=>
     simp only[aI.leaf,aQ]at h1;exact⟨_,rfl,by simp[xA,h1],U⟩
  cases h
 | agg cs=>
  have Oh:∀q:List fF×hL,q=mL i 0 cs []->q.1[j]?=some (.hf k es (some cv))->False:=by
   rintro q rfl h;have:=(Iv i h).1;simp at this
  cases p with
  | fE as=>exact (Oh _ rfl h).elim
  | aJ a=>
   cases a with
   | one l=>exact (Oh _ rfl h).elim
   | agg ls=>
    simp only[GA.found,GA.cell]at h ⊢;obtain⟨h1,U⟩:=Iv i h;rw[dx]at h1 U;exact⟨_,rfl,by simp[xA,h1],U⟩
theorem PU:∀{as:List GA} {ct:List aI} {i x j:Nat} {a:GA} {k:Nat} {es cv:List (List D)},(kz i as ct).1[x]?=some a->a.cell j=some (.hf k es (some cv))->
  ∃aJ,ct[x]?=some (.aJ aJ)/\xA j aJ=some (.J (.own (fg (i+x) j)) k cv)/\(fg (i+x) j,fg (i+x) j)∈(kz i as ct).2
 | [],ct,i,x,j,a,k,es,cv,h,_=>by simp[kz]at h
 | b::as,ct,i,0,j,a,k,es,cv,h,ah=>by
  simp only[kz,j2,aQ]at h;subst h;obtain⟨aJ,h1,U,ax⟩:=GA.B1 ah;refine⟨aJ,?_,U,?_⟩
  ·cases ct with
   | nil=>
    simp only[List.headD_nil]at h1;cases h1;simp only[xA]at U;split at U<;>simp at U
   | cons p ct=>simpa using h1
  simp only[kz];exact hZ _ ax
 | b::as,ct,i,x+1,j,a,k,es,cv,h,ah=>by
  simp only[kz,n1]at h;obtain⟨aJ,h1,U,ax⟩:=PU h ah;rw[show i+1+x=i+(x+1) by omega]at U ax;refine⟨aJ,by cases ct<;>simp_all,U,?_⟩;simp only[kz];exact iz _ ax
def v7(P:Program)(st:aH)(jd:List ResultVar)(args:List GA)(hint:List cF):Option (List cF×List GA):=
 match jd.mapM (p1 P st) with
 | some ct=>
  match q8 0 ct hint with
  | some (ds,ts)=>if M0 args&&CW (ts++(kz 0 args st.env).2) then some (ds,(kz 0 args st.env).1) else none
  | none=>none
 | none=>none
theorem PV{P:Program}{f:FuncId}{fn:Func}{c:Code}{args:List GA}{rs:List cF}{ans cd:List b7}{obs:List Prop}{e:hb}{st:aH}(bY:P.funcs[f]?=some fn)(aq:fn.body=some c)
  (fC:run P c (wY args fn.ntmps) ans=some (e,st,cd,obs)) (aX:cE obs) (he:e=.ret\/e=.normal) (eN:v7 P st fn.results.toList args rs=some (rs,args)):ux P f args rs:=by
 intro w vs Bz lF rW;unfold v7 at eN;split at eN
 ·rename_i ct rR;split at eN
  ·rename_i ds ts eh;split at eN
   ·rename_i cG;simp only[aQ,bu]at eN;obtain⟨rfl,W9⟩:=eN;rw[cq]at cG;obtain⟨ev,cG⟩:=cG;refine calls_of_wp bY aq (Code.wp_mono (fun e' cx aN hp=>?_) (mK c fC aX _ _ w (aj3 ev lF rW fn.ntmps)));obtain⟨rfl,ω,τ,aU⟩:=hp;obtain⟨zs,h1,U,ax⟩:=CZ aU rR;obtain⟨aK,aV⟩:=CY (w:=aN) (ω:=ω) (τ:=τ) (ts:=ts++(kz 0 args st.env).2) (fun t n h=>CX cG h) eh (fun x ag=>hZ _ ag);have hm:=CC (P:=P) _ fn.results aN _ h1;have eW:∀(j:Nat) (d:cF),ds[j]?=some d->∃z,zs[j]?=some z/\lh aN (h' ω (ts++(kz 0 args st.env).2)) j d z:=by
     intro j d aE;obtain⟨p,hp,rQ⟩:=aV j d aE;obtain⟨z,bd,wX⟩:=ax j p hp;exact⟨z,bd,by have:=rQ z wX;rwa[dx]at this⟩
    have lb:zs.length=ds.length:=by omega
    have hA:∀v,(if h:zs.toArray.size=1 then zs.toArray[0] else .tuple zs.toArray)=v->mI aN (h' ω (ts++(kz 0 args st.env).2)) ds v:=by
     intro v bA;unfold mI;split
     ·rename_i cj;obtain⟨z,bd,ah⟩:=eW 0 cj rfl;have h1:zs.length=1:=by rw[lb];rfl
      have oC:zs=[z]:=by
       match zs,h1,bd with
       | [z0],_,bd=>simp at bd;rw[bd]
      have za:v=z:=by
       rw[<-bA];simp[oC]
      rw[za];exact ah
     rename_i cC;have h1:¬zs.toArray.size=1:=by
      intro h;simp at h;rw[lb]at h;obtain⟨d,aE⟩:=List.length_eq_one_iff.1 h;exact cC d aE
     rw[dif_neg h1]at bA;exact⟨zs.toArray,bA.symm,by simpa using lb,fun r cj aD=>by obtain⟨z,bd,ah⟩:=eW r cj aD;exact⟨z,by simpa using bd,ah⟩⟩
    have Gq:Kept aN (h' ω (ts++(kz 0 args st.env).2)) args vs:=by
     intro i j eM k es cv sX ah;have Xb:(kz 0 args st.env).1[i]?=some eM:=by rw[W9];exact sX
     obtain⟨aJ,bw,bX,c8⟩:=PU Xb ah;rw[dx]at bX c8;obtain⟨v,bA,ai⟩:=aU.env i _ bw;have ey:∃u,Sat aN ω τ (.J (.own (fg i j)) k cv) u:=by
      cases aJ with
      | one l=>
       simp only[xA]at bX;split at bX
       ·simp only[aQ]at bX;exact⟨v,bX▸ai⟩
       cases bX
      | agg ls=>
       obtain⟨us,_,_,hu⟩:=ai;obtain⟨u,_,ed⟩:=hu j _ bX;exact⟨u,ed⟩
     obtain⟨u,aD,bB⟩:=ey;have a':j<100:=by
      cases eM with
      | one c=>simp only[GA.cell]at ah;split at ah<;>first | omega | cases ah
      | agg cs=>
       have h1:=fv.1 ev _ (fp sX);simp only[cK]at h1;have:=(eu.1 ah).1;omega
     have qx:=aU.fixed (fg i j) (by simp[fg]);have Xd:=FJ (args:=args) (vs:=vs) a' sX ah;have:u=cellOf (vs.getD i undef) j:=by
      have ed:τ (fg i j)=(k,u):=bB;rw[qx]at ed;have dK:yr args vs (fg i j)=(k,u):=ed;rw[Xd]at dK;exact (Prod.mk.inj dK).2.symm
     subst this;refine aD.frame fun b q _ aC=>⟨?_,rfl⟩
     simp only[Tag.R]at aC ⊢;have:=CX cG (iz ts c8);simp only[h',aC,this]
    have dI:∃v,(results fn cx.tmps).run P aN=.ok v aN/\∃u,Ending.returned v=.returned u/\gO ⟨w,fun b=>Bz b≠.bE,fun _=>(0,undef)⟩ aN/\
      ∃aY:Own,(∀b,b<w.heap.size->Bz b=.bE->aY b=.bE)/\(∀b,aY b≠.bE->(∃t q,aY b=.tok t q)/\∃arr ty,aN.heap[b]?=some (.cells arr ty (0,0)))/\Kept aN aY args vs/\mI aN aY ds u:=by
     refine⟨_,?_,_,rfl,⟨aU.below.os,aU.below.tape,aU.below.output,aU.below.size,aU.below.block,aU.below.drawn,aU.below.laid,aU.below.free⟩,h' ω (ts++(kz 0 args st.env).2),fun b aq au=>?_,fun b aq=>?_,Gq,hA _ rfl⟩
     ·rw[Io,Sem.run_bind,hm];rfl
     ·cases c9:ω b with
      | bE=>simp[h',c9]
      | box id=>simp[h',c9]
      | tok t q=>
       rcases (aU.owned b (by simp[c9])).1 with h | h
       ·exact absurd aq (by have h:w.heap.size<=b:=h;omega)
       exact absurd au h
     cases c9:ω b with
     | bE=>simp[h',c9]at aq
     | box id=>simp[h',c9]at aq
     | tok t q=>
      refine⟨?_,(aU.owned b (by simp[c9])).2⟩;simp only[h',c9]at aq ⊢;cases jS:(ts++(kz 0 args st.env).2).at t with
      | none=>simp[jS]at aq
      | some n=>exact⟨n,q,rfl⟩
    obtain⟨v,bw,bX⟩:=dI;rcases he with rfl | rfl
    ·exact⟨aU.defers,v,bw,bX⟩
    exact⟨aU.defers,v,bw,bX⟩
   cases eN
  cases eN
 cases eN
def Ol(P:Program)(c:Code)(ntmps:Nat)(jd:List ResultVar)(args:List GA)(hint:List cF)(ans:List b7):Option (List cF×List GA×List Prop):=
 match run P c (wY args ntmps) ans with
 | some (.ret,st,_,obs)=>(v7 P st jd args hint).map fun rs=>(rs.1,rs.2,obs)
 | some (.normal,st,_,obs)=>(v7 P st jd args hint).map fun rs=>(rs.1,rs.2,obs)
 | _=>none
theorem ux.of{P:Program}{f:FuncId}{fn:Func}{args:List GA}{rs:List cF}(ans:List b7)(obs:List Prop)(bY:P.funcs[f]?=some fn)(aq:fn.body.isSome=true)
  (h:Ol P (nQ fn) fn.ntmps fn.results.toList args rs ans=some (rs,args,obs)) (aX:cE obs):ux P f args rs:=by
 obtain⟨c,ah⟩:=o6.1 aq;have yJ:nQ fn=c:=by simp[nQ,ah]
 unfold Ol at h;rw[yJ]at h;split at h
 ·rename_i st a lR aD;rw[b0]at h;obtain⟨⟨xX,Lm⟩,h1,h⟩:=h;simp only[bu]at h;obtain⟨rfl,rfl,rfl⟩:=h;exact PV bY ah aD aX (.inl rfl) h1
 ·rename_i st a lR aD;rw[b0]at h;obtain⟨⟨xX,Lm⟩,h1,h⟩:=h;simp only[bu]at h;obtain⟨rfl,rfl,rfl⟩:=h;exact PV bY ah aD aX (.inr rfl) h1
 cases h
end Go.Sx
namespace Go.Sx
open Go.RowKit
def jn(es:List (List Value)):List (List D):=es.map (·.map .v)
theorem C3(es:List (List Value)):(jn es).length=es.length:=by simp[jn]
variable{es:List (List Value)}
theorem PW{i j:Nat}{d:D}(h:cT (jn es) i j=some d):∃e v,es[i]?=some e/\e[j]?=some v/\d=.v v:=by
 unfold cT jn at h;rw[dd]at h;cases e1:es[i]? with
 | none=>simp[e1]at h
 | some e=>
  simp only[e1,l3,l1,dd,b0]at h;obtain⟨v,h1,rfl⟩:=h;exact⟨e,v,rfl,h1,rfl⟩
theorem FG{i j:Nat}{e:List Value}{v:Value}(h1:es[i]?=some e)(U:e[j]?=some v):cT (jn es) i j=some (.v v):=by
 simp[cT,jn,h1,U]
structure Row (w:World) (b off k cap:Nat) (arr:Array Value) (ty:TypeId) (es:List (List Value)):Prop where
 heap:w.heap[b]?=some (.cells arr ty (0,0))
 room:es.length<=cap
 fit:off+cap*k<=arr.size
 len:∀e∈es,e.length=k
 one:∀e∈es,∀v∈e,v.oneCell'=true
 cell:∀i j e v,es[i]?=some e->e[j]?=some v->arr[off+i*k+j]?=some v
variable{w:World}{k:Nat}
theorem Row.rep{b off cap:Nat}{arr:Array Value}{ty:TypeId}(h:Row w b off k cap arr ty es){ω:Own}{R:List (Nat×Nat)->cS->Prop}(dI:R [] (ω b)):
  bW w ω R (.J k (jn es)) (.slice (some ⟨b,off,none⟩) es.length cap):=by
 have:=bW.row (w:=w) (ω:=ω) R k (jn es) b off cap arr ty (0,0) (fun i j=>arr.getD (off+i*k+j) undef) h.heap dI (by rw[C3];exact h.room) h.fit
  (by intro e he;simp only[jn,k2]at he;obtain⟨bz,bJ,rfl⟩:=he;simpa using h.len bz bJ)
  (by
   intro i j d aE;obtain⟨e,v,h1,U,rfl⟩:=PW aE;have:=h.cell i j e v h1 U;simp[d',this])
  (by
   intro i j d aE;obtain⟨e,v,h1,U,rfl⟩:=PW aE;have ax:=h.cell i j e v h1 U;have:arr.getD (off+i*k+j) undef=v:=by simp[d',ax]
   rw[this];exact .v _ _ (h.one e (fp h1) v (fp U)))
 rwa[C3]at this
theorem Fp.row{w:World}{ω:Own}(au:Fp w ω){t:Nat}{y:Value}(h:bW w ω (Tag.own t).R (.J k (jn es)) y):
  (es=[]/\∃a,y=.slice a 0 0)\/∃b off cap arr ty,ω b=.tok t []/\y=.slice (some ⟨b,off,none⟩) es.length cap/\Row w b off k cap arr ty es:=by
 generalize aE:D.J k (jn es)=d at h;cases h with
 | nil R k a=>
  simp only[D.J.injEq]at aE;exact .inl ⟨by simpa[jn]using aE.2,a,rfl⟩
 | row R k cv b off cap arr ty cN us aq dI ah ai hk hu dD=>
  simp only[D.J.injEq]at aE;obtain⟨rfl,rfl⟩:=aE;simp only[Tag.R]at dI;obtain⟨_,b6,qg,ax⟩:=au b (by rw[dI];simp);rw[aq]at ax;simp only[aQ,Obj.cells.injEq]at ax;obtain⟨rfl,rfl,rfl⟩:=ax;refine .inr ⟨b,off,cap,arr,ty,dI,by rw[C3],aq,by rwa[C3]at ah,ai,fun e he=>?_,fun e he v bA=>?_,fun i j e v h1 U=>?_⟩
  ·have:=hk (e.map .v) (by simp only[jn,k2];exact⟨e,he,rfl⟩);simpa using this
  ·obtain⟨i,hi⟩:=o7.1 he;obtain⟨j,a'⟩:=o7.1 bA;have:=dD i j (.v v) (FG hi a');generalize us i j=u at this;cases this with
   | v _ _ h1=>exact h1
  have ax:=hu i j (.v v) (FG h1 U);have aK:=dD i j (.v v) (FG h1 U);generalize us i j=u at ax aK;cases aK with
  | v=>exact ax
 | v=>cases aE
 | ptr=>cases aE
 | cl=>cases aE
structure MC (w aN:World) (own:Nat->Prop) (k:Nat) (es:List (List Value)) (v:Value):Prop where
 as3:My ⟨w,own,fun _=>(0,undef)⟩ aN
 row:(es=[]/\∃a,v=.slice a 0 0)\/∃b off cap arr ty,(own b\/w.heap.size<=b)/\v=.slice (some ⟨b,off,none⟩) es.length cap/\Row aN b off k cap arr ty es
theorem MC.res{aN:World}{ω:Own}{v:Value}(h:MC w aN (fun b=>ω b≠.bE) k es v):
  ∃aY:Own,(∀b,b<w.heap.size->ω b=.bE->aY b=.bE)/\(∀b,aY b≠.bE->(∃t q,aY b=.tok t q)/\∃arr ty,aN.heap[b]?=some (.cells arr ty (0,0)))/\mI aN aY [.one (.J k (jn es))] v:=by
 rcases h.row with⟨rfl,a,rfl⟩ | ⟨b,off,cap,arr,ty,aX,rfl,aD⟩
 ·exact⟨fun _=>.bE,fun _ _ _=>rfl,fun b aq=>absurd rfl aq,bW.nil _ k a⟩
 refine⟨fun c=>if c=b then .tok 0 [] else .bE,fun c ah he=>?_,fun c ah=>?_,?_⟩
 ·by_cases e:c=b
  ·subst e;rcases aX with aX | aX
   ·exact absurd he aX
   omega
  simp only[bg e]
 ·by_cases e:c=b
  ·subst e;exact⟨⟨0,[],by simp⟩,arr,ty,aD.heap⟩
  simp only[bg e]at ah;exact absurd rfl ah
 exact aD.rep (R:=(Tag.own 0).R) (by simp[Tag.R])
@[simp] theorem setRow_drawn (w : World) (b : Nat) (cs : Array Value) : (w.setRow b cs).drawn = w.drawn := rfl
theorem at3{own:Nat->Prop}{b:Nat}(aq:own b)(jM rk:Array Value):My ⟨w,own,fun _=>(0,undef)⟩ ((w.drew.setRow b jM).setRow b rk):=by
 refine⟨rfl,rfl,rfl,by simp,fun k hk au=>?_,?_⟩
 ·have:k≠b:=fun e=>au (by rw[e];exact aq)
  rw[setRow_other _ b k _ this,setRow_other _ b k _ this];rfl
 intro _;show w.drawn<=w.drawn+1;omega
