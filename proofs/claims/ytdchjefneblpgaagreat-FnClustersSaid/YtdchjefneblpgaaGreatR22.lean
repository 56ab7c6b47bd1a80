import Derived.Test.YtdchjefneblpgaaGreatR15
set_option linter.unusedVariables false
set_option linter.unusedSimpArgs false
namespace Go.Sx
open Go.RowKit
def gb.leaf(t:Nat):gb->aH
 | .ro d=>d.leaf .free
 | .hI k es _=>.J (.own t) k es
def uy(i:Nat):Nat->List gb->List aH
 | _,[]=>[]
 | j,c::cs=>c.leaf (fx i j)::uy i (j+1) cs
def GA.aI(i:Nat):GA->bC
 | .one c=>.one (c.leaf (fx i 0))
 | .agg cs=>.agg (uy i 0 cs)
def tP:Nat->List GA->List aJ
 | _,[]=>[]
 | i,a::as=>.aI (a.aI i)::tP (i+1) as
def yB(args:List GA)(ntmps:Nat):aF:=⟨tP 0 args++List.replicate (ntmps-args.length) .cq,[]⟩
def gb.post:gb->aH->gb
 | .hI k es (some _),.J (.own _) cn cH=>if cn=k then .hI k es (some cH) else .hI k es none
 | .hI k es _,_=>.hI k es none
 | c,_=>c
def PD(args:List GA):Bool:=args.all fun | .one _=>true | .agg cs=>decide (cs.length<=100)
def PE(args:List GA)(t:Nat):Nat:=
 match (args[(t-dj) / 100]?).bind (GA.cell ((t-dj) % 100)) with
 | some (.hI k _ _)=>k
 | _=>0
def Ab(args:List GA)(vs:Array Value)(t:Nat):Nat×Value:=(PE args t,cellOf (vs.getD ((t-dj) / 100) undef) ((t-dj) % 100))
theorem HF{args:List GA}{vs:Array Value}{i j:Nat}(bd:j<100){fc:GA}(ae:args[i]?=some fc){k:Nat}{es:List (List D)}{post:Option (List (List D))}(ak:fc.cell j=some (.hI k es post)):
  Ab args vs (fx i j)=(k,cellOf (vs.getD i undef) j):=by
 have e1:(fx i j-dj) / 100=i:=by simp only[fx];omega
 have e2:(fx i j-dj) % 100=j:=by simp only[fx];omega
 simp only[Ab,PE,e1,e2,ae,mZ,ak]
theorem Ti(i:Nat):∀(cs:List gb) (j x:Nat),(uy i j cs)[x]?=(cs[x]?).map fun c=>c.leaf (fx i (j+x))
 | [],j,x=>by simp[uy]
 | c::cs,j,0=>by simp[uy]
 | c::cs,j,x+1=>by
  simp only[uy,oY,Ti i cs (j+1) x];rw[show j+1+x=j+(x+1) by omega]
theorem Tj(i:Nat):∀(cs:List gb) (j:Nat),(uy i j cs).length=cs.length
 | [],_=>rfl
 | c::cs,j=>by simp[uy,Tj i cs (j+1)]
theorem Tk:∀(as:List GA) (i x:Nat),(tP i as)[x]?=(as[x]?).map fun a=>.aI (a.aI (i+x))
 | [],i,x=>by simp[tP]
 | a::as,i,0=>by simp[tP]
 | a::as,i,x+1=>by
  simp only[tP,oY,Tk as (i+1) x];rw[show i+1+x=i+(x+1) by omega]
theorem LI:∀(as:List GA) (i:Nat),(tP i as).length=as.length
 | [],_=>rfl
 | a::as,i=>by simp[tP,LI as (i+1)]
theorem vD.sat{w:World}{ω:Own}{τ:Nat->Nat×Value}{t:Nat}{c:gb}{y:Value}(h:vD w ω t c y)(sV:∀k es post,c=.hI k es post->τ t=(k,y)):Sat w ω τ (c.leaf t) y:=by
 cases c with
 | ro d=>exact D.dN (t:=.free) (p:=(0,0)) h
 | hI k es post=>exact⟨h,sV k es post rfl⟩
theorem as8{w:World}{ω:Own}{args:List GA}{vs:Array Value}(eQ:PD args=true)(h:Hd w ω args vs)(sR:Tidy w ω)(ntmps:Nat):
  Rel ⟨w,fun b=>ω b≠.bO,Ab args vs⟩ (yB args ntmps) { tmps:=vs++Array.replicate (ntmps-vs.size) undef,defers:=[] } w:=by
 obtain⟨av,aR,ae⟩:=h;refine⟨ω,Ab args vs,rfl,by simp[yB,aR,LI],hr.start sR,fun b aj=>⟨.inr aj,(av b aj).2⟩,fun _ _=>rfl,(fun id b _ aj=>by
  obtain⟨⟨t,q,e,_⟩,_⟩:=av b (by rw[aj];simp);rw[aj]at e;cases e),?_,fun id ls ag=>by simp[yB,dF]at ag⟩
 intro i p hp;simp only[yB]at hp;rw[lk,LI]at hp;split at hp
 ·rename_i hi;rw[Tk,b8]at hp;obtain⟨fc,tX,rfl⟩:=hp;rw[dG];obtain⟨v,bF,bP⟩:=ae i fc tX;have lX:i<vs.size:=by omega
  refine⟨v,by rw[kf,bi lX,bF],?_⟩;have Qw:vs.getD i undef=v:=by simp[ew,bF]
  cases fc with
  | one c=>
   refine vD.sat bP fun k es post ak=>?_
   have:=HF (args:=args) (vs:=vs) (i:=i) (j:=0) (by omega) tX (k:=k) (es:=es) (post:=post) (by simp[GA.cell,ak]);rw[this,Qw];subst ak;have aA:b7 w ω (Tag.own (fx i 0)).R (.J k es) v:=bP;obtain⟨b,c,rfl⟩:=aA.len;rfl
  | agg cs=>
   obtain⟨us,rfl,hlen,mx⟩:=bP;refine⟨us,rfl,by rw[Tj];exact hlen,fun j l ag=>?_⟩;rw[Ti,b8]at ag;obtain⟨c,ak,rfl⟩:=ag;rw[dG];obtain⟨u,hu,bP⟩:=mx j c ak;have bd:j<100:=by
    have h1:=fK.1 eQ _ (fF tX);simp only[cr]at h1;have:=(eW.1 ak).1;omega
   refine⟨u,hu,vD.sat bP fun k es post e=>?_⟩;rw[HF (args:=args) (vs:=vs) bd tX (k:=k) (es:=es) (post:=post) (by simp only[GA.cell,ak,e]),Qw];simp[cellOf,Value.cells,ew,hu]
 rename_i hi;rw[zS]at hp;split at hp
 ·rename_i bL;simp only[aX]at hp;subst hp;refine⟨undef,?_,ad⟩;rw[kf,ba (by omega),Array.getElem?_replicate,bi (by omega)]
 cases hp
end Go.Sx
namespace Go.Sx
open Go.RowKit
def gb.found(t:Nat):gb->Option aH->gb×h6
 | .ro d,_=>(.ro d,[])
 | .hI k es (some _),some (.J (.own s) cn cH)=>if s=t/\cn=k then (.hI k es (some cH),[(t,t)]) else (.hI k es none,[])
 | .hI k es _,_=>(.hI k es none,[])
def nR(i:Nat):Nat->List gb->List aH->List gb×h6
 | _,[],_=>([],[])
 | j,c::cs,ls=>((c.found (fx i j) ls.head?).1::(nR i (j+1) cs ls.tail).1,(c.found (fx i j) ls.head?).2++(nR i (j+1) cs ls.tail).2)
def GA.found(i:Nat):GA->aJ->GA×h6
 | .one c,p=>(.one (c.found (fx i 0) p.leaf).1,(c.found (fx i 0) p.leaf).2)
 | .agg cs,.aI (.agg ls)=>(.agg (nR i 0 cs ls).1,(nR i 0 cs ls).2)
 | .agg cs,_=>(.agg (nR i 0 cs []).1,(nR i 0 cs []).2)
def la:Nat->List GA->List aJ->List GA×h6
 | _,[],_=>([],[])
 | i,a::as,cF=>((a.found i (cF.headD .cq)).1::(la (i+1) as cF.tail).1,(a.found i (cF.headD .cq)).2++(la (i+1) as cF.tail).2)
theorem gb.Dx{t:Nat}{c:gb}{l:Option aH}{k:Nat}{es cH:List (List D)}(h:(c.found t l).1=.hI k es (some cH)):l=some (.J (.own t) k cH)/\(t,t)∈(c.found t l).2:=by
 unfold gb.found at h ⊢;split at h
 ·cases h
 ·rename_i dC dO p s cn ayZ;split at h
  ·rename_i ak;obtain⟨rfl,rfl⟩:=ak;simp only[gb.hI.injEq,aX]at h;obtain⟨rfl,_,rfl⟩:=h;exact⟨rfl,by simp⟩
  cases h
 cases h
theorem LJ(i:Nat):∀{cs:List gb} {ls:List aH} {j x k:Nat} {es cH:List (List D)},(nR i j cs ls).1[x]?=some (.hI k es (some cH))->
  ls[x]?=some (.J (.own (fx i (j+x))) k cH)/\(fx i (j+x),fx i (j+x))∈(nR i j cs ls).2
 | [],ls,j,x,k,es,cH,h=>by simp[nR]at h
 | c::cs,ls,j,0,k,es,cH,h=>by
  simp only[nR,kg,aX]at h;obtain⟨h1,U⟩:=gb.Dx h;refine⟨by cases ls<;>simp_all,?_⟩;simp only[nR];exact gN _ U
 | c::cs,ls,j,x+1,k,es,cH,h=>by
  simp only[nR,oY]at h;obtain⟨h1,U⟩:=LJ i h;rw[show j+1+x=j+(x+1) by omega]at h1 U;refine⟨by cases ls<;>simp_all,?_⟩;simp only[nR];exact hR _ U
def yR(j:Nat):bC->Option aH
 | .one l=>if j=0 then some l else none
 | .agg ls=>ls[j]?
theorem GA.Dx{i j:Nat}{a:GA}{p:aJ}{k:Nat}{es cH:List (List D)}(h:(a.found i p).1.cell j=some (.hI k es (some cH))):
  ∃aI,p=.aI aI/\yR j aI=some (.J (.own (fx i j)) k cH)/\(fx i j,fx i j)∈(a.found i p).2:=by
 cases a with
 | one c=>
  simp only[GA.found,GA.cell]at h ⊢;split at h
  ·rename_i bd;subst bd;simp only[aX]at h;obtain⟨h1,U⟩:=gb.Dx h;cases p with
   | ga as=>cases h1
   | aI a=>
    cases a with
    | agg ls=>cases h1
    | one l=>
     simp only[aJ.leaf,aX]at h1;exact⟨_,rfl,by simp[yR,h1],U⟩
  cases h
 | agg cs=>
  have QU:∀q:List gb×h6,q=nR i 0 cs []->q.1[j]?=some (.hI k es (some cH))->False:=by
   rintro q rfl h;have:=(LJ i h).1;simp at this
  cases p with
  | ga as=>exact (QU _ rfl h).elim
  | aI a=>
   cases a with
   | one l=>exact (QU _ rfl h).elim
   | agg ls=>
    simp only[GA.found,GA.cell]at h ⊢;obtain⟨h1,U⟩:=LJ i h;rw[dG]at h1 U;exact⟨_,rfl,by simp[yR,h1],U⟩
theorem Tl:∀{as:List GA} {cF:List aJ} {i x j:Nat} {a:GA} {k:Nat} {es cH:List (List D)},(la i as cF).1[x]?=some a->a.cell j=some (.hI k es (some cH))->
  ∃aI,cF[x]?=some (.aI aI)/\yR j aI=some (.J (.own (fx (i+x) j)) k cH)/\(fx (i+x) j,fx (i+x) j)∈(la i as cF).2
 | [],cF,i,x,j,a,k,es,cH,h,_=>by simp[la]at h
 | b::as,cF,i,0,j,a,k,es,cH,h,ak=>by
  simp only[la,kg,aX]at h;subst h;obtain⟨aI,h1,U,ax⟩:=GA.Dx ak;refine⟨aI,?_,U,?_⟩
  ·cases cF with
   | nil=>
    simp only[List.headD_nil]at h1;cases h1;simp only[yR]at U;split at U<;>simp at U
   | cons p cF=>simpa using h1
  simp only[la];exact gN _ ax
 | b::as,cF,i,x+1,j,a,k,es,cH,h,ak=>by
  simp only[la,oY]at h;obtain⟨aI,h1,U,ax⟩:=Tl h ak;rw[show i+1+x=i+(x+1) by omega]at U ax;refine⟨aI,by cases cF<;>simp_all,U,?_⟩;simp only[la];exact hR _ ax
def xH(P:Program)(st:aF)(jQ:List ResultVar)(args:List GA)(hint:List cQ):Option (List cQ×List GA):=
 match jQ.mapM (qM P st) with
 | some cF=>
  match r2 0 cF hint with
  | some (ds,ts)=>if PD args&&Ey (ts++(la 0 args st.env).2) then some (ds,(la 0 args st.env).1) else none
  | none=>none
 | none=>none
theorem Tm{P:Program}{f:FuncId}{fn:Func}{c:Code}{args:List GA}{rs:List cQ}{ans cu:List ci}{obs:List Prop}{e:hE}{st:aF}(bw:P.funcs[f]?=some fn)(aj:fn.body=some c)
  (fU:run P c (yB args fn.ntmps) ans=some (e,st,cu,obs)) (aU:cO obs) (he:e=.ret\/e=.normal) (fe:xH P st fn.results.toList args rs=some (rs,args)):vG P f args rs:=by
 intro w vs C6 mw sR;unfold xH at fe;split at fe
 ·rename_i cF sN;split at fe
  ·rename_i ds ts eI;split at fe
   ·rename_i bP;simp only[aX,bJ]at fe;obtain⟨rfl,aaW⟩:=fe;rw[cm]at bP;obtain⟨eQ,bP⟩:=bP;refine calls_of_wp bw aj (Code.wp_mono (fun e' cJ aS hp=>?_) (nQ c fU aU _ _ w (as8 eQ mw sR fn.ntmps)));obtain⟨rfl,ω,τ,aZ⟩:=hp;obtain⟨zs,h1,U,ax⟩:=EB aZ sN;obtain⟨aK,a7⟩:=EA (w:=aS) (ω:=ω) (τ:=τ) (ts:=ts++(la 0 args st.env).2) (fun t n h=>Ez bP h) eI (fun x aa=>gN _ aa);have hm:=Ed (P:=P) _ fn.results aS _ h1;have fa:∀(j:Nat) (d:cQ),ds[j]?=some d->∃z,zs[j]?=some z/\mi aS (iI ω (ts++(la 0 args st.env).2)) j d z:=by
     intro j d aE;obtain⟨p,hp,sM⟩:=a7 j d aE;obtain⟨z,a6,yA⟩:=ax j p hp;exact⟨z,a6,by have:=sM z yA;rwa[dG]at this⟩
    have l1:zs.length=ds.length:=by omega
    have hV:∀v,(if h:zs.toArray.size=1 then zs.toArray[0] else .tuple zs.toArray)=v->nO aS (iI ω (ts++(la 0 args st.env).2)) ds v:=by
     intro v bF;unfold nO;split
     ·rename_i cB;obtain⟨z,a6,ak⟩:=fa 0 cB rfl;have h1:zs.length=1:=by rw[l1];rfl
      have ph:zs=[z]:=by
       match zs,h1,a6 with
       | [z0],_,a6=>simp at a6;rw[a6]
      have AM:v=z:=by
       rw[<-bF];simp[ph]
      rw[AM];exact ak
     rename_i ct;have h1:¬zs.toArray.size=1:=by
      intro h;simp at h;rw[l1]at h;obtain⟨d,aE⟩:=List.length_eq_one_iff.1 h;exact ct d aE
     rw[dif_neg h1]at bF;exact⟨zs.toArray,bF.symm,by simpa using l1,fun r cB aA=>by obtain⟨z,a6,ak⟩:=fa r cB aA;exact⟨z,by simpa using a6,ak⟩⟩
    have Ii:Kept aS (iI ω (ts++(la 0 args st.env).2)) args vs:=by
     intro i j fc k es cH tX ak;have aaZ:(la 0 args st.env).1[i]?=some fc:=by rw[aaW];exact tX
     obtain⟨aI,bp,b6,dn⟩:=Tl aaZ ak;rw[dG]at b6 dn;obtain⟨v,bF,ai⟩:=aZ.env i _ bp;have eS:∃u,Sat aS ω τ (.J (.own (fx i j)) k cH) u:=by
      cases aI with
      | one l=>
       simp only[yR]at b6;split at b6
       ·simp only[aX]at b6;exact⟨v,b6▸ai⟩
       cases b6
      | agg ls=>
       obtain⟨us,_,_,hu⟩:=ai;obtain⟨u,_,eF⟩:=hu j _ b6;exact⟨u,eF⟩
     obtain⟨u,aA,bQ⟩:=eS;have bd:j<100:=by
      cases fc with
      | one c=>simp only[GA.cell]at ak;split at ak<;>first | omega | cases ak
      | agg cs=>
       have h1:=fK.1 eQ _ (fF tX);simp only[cr]at h1;have:=(eW.1 ak).1;omega
     have ri:=aZ.fixed (fx i j) (by simp[fx]);have aa1:=HF (args:=args) (vs:=vs) bd tX ak;have:u=cellOf (vs.getD i undef) j:=by
      have eF:τ (fx i j)=(k,u):=bQ;rw[ri]at eF;have dY:Ab args vs (fx i j)=(k,u):=eF;rw[aa1]at dY;exact (Prod.mk.inj dY).2.symm
     subst this;refine aA.frame fun b q _ az=>⟨?_,rfl⟩
     simp only[Tag.R]at az ⊢;have:=Ez bP (hR ts dn);simp only[iI,az,this]
    have dT:∃v,(results fn cJ.tmps).run P aS=.ok v aS/\∃u,Ending.returned v=.returned u/\hr ⟨w,fun b=>C6 b≠.bO,fun _=>(0,undef)⟩ aS/\
      ∃a':Own,(∀b,b<w.heap.size->C6 b=.bO->a' b=.bO)/\(∀b,a' b≠.bO->(∃t q,a' b=.tok t q)/\∃arr ty,aS.heap[b]?=some (.cells arr ty (0,0)))/\Kept aS a' args vs/\nO aS a' ds u:=by
     refine⟨_,?_,_,rfl,⟨aZ.below.os,aZ.below.tape,aZ.below.output,aZ.below.size,aZ.below.block,aZ.below.drawn,aZ.below.laid,aZ.below.free⟩,iI ω (ts++(la 0 args st.env).2),fun b aj av=>?_,fun b aj=>?_,Ii,hV _ rfl⟩
     ·rw[LC,Sem.run_bind,hm];rfl
     ·cases dr:ω b with
      | bO=>simp[iI,dr]
      | box id=>simp[iI,dr]
      | tok t q=>
       rcases (aZ.owned b (by simp[dr])).1 with h | h
       ·exact absurd aj (by have h:w.heap.size<=b:=h;omega)
       exact absurd av h
     cases dr:ω b with
     | bO=>simp[iI,dr]at aj
     | box id=>simp[iI,dr]at aj
     | tok t q=>
      refine⟨?_,(aZ.owned b (by simp[dr])).2⟩;simp only[iI,dr]at aj ⊢;cases ko:(ts++(la 0 args st.env).2).at t with
      | none=>simp[ko]at aj
      | some n=>exact⟨n,q,rfl⟩
    obtain⟨v,bp,b6⟩:=dT;rcases he with rfl | rfl
    ·exact⟨aZ.defers,v,bp,b6⟩
    exact⟨aZ.defers,v,bp,b6⟩
   cases fe
  cases fe
 cases fe
def QX(P:Program)(c:Code)(ntmps:Nat)(jQ:List ResultVar)(args:List GA)(hint:List cQ)(ans:List ci):Option (List cQ×List GA×List Prop):=
 match run P c (yB args ntmps) ans with
 | some (.ret,st,_,obs)=>(xH P st jQ args hint).map fun rs=>(rs.1,rs.2,obs)
 | some (.normal,st,_,obs)=>(xH P st jQ args hint).map fun rs=>(rs.1,rs.2,obs)
 | _=>none
theorem vG.of{P:Program}{f:FuncId}{fn:Func}{args:List GA}{rs:List cQ}(ans:List ci)(obs:List Prop)(bw:P.funcs[f]?=some fn)(aj:fn.body.isSome=true)
  (h:QX P (oR fn) fn.ntmps fn.results.toList args rs ans=some (rs,args,obs)) (aU:cO obs):vG P f args rs:=by
 obtain⟨c,ak⟩:=pQ.1 aj;have Aq:oR fn=c:=by simp[oR,ak]
 unfold QX at h;rw[Aq]at h;split at h
 ·rename_i st a mK aA;rw[b8]at h;obtain⟨⟨zy,NN⟩,h1,h⟩:=h;simp only[bJ]at h;obtain⟨rfl,rfl,rfl⟩:=h;exact Tm bw ak aA aU (.inl rfl) h1
 ·rename_i st a mK aA;rw[b8]at h;obtain⟨⟨zy,NN⟩,h1,h⟩:=h;simp only[bJ]at h;obtain⟨rfl,rfl,rfl⟩:=h;exact Tm bw ak aA aU (.inr rfl) h1
 cases h
end Go.Sx
namespace Go.Sx
open Go.RowKit
def j6(es:List (List Value)):List (List D):=es.map (·.map .v)
theorem EE(es:List (List Value)):(j6 es).length=es.length:=by simp[j6]
variable{es:List (List Value)}
theorem Tn{i j:Nat}{d:D}(h:c9 (j6 es) i j=some d):∃e v,es[i]?=some e/\e[j]?=some v/\d=.v v:=by
 unfold c9 j6 at h;rw[du]at h;cases e1:es[i]? with
 | none=>simp[e1]at h
 | some e=>
  simp only[e1,n0,mZ,du,b8]at h;obtain⟨v,h1,rfl⟩:=h;exact⟨e,v,rfl,h1,rfl⟩
theorem HC{i j:Nat}{e:List Value}{v:Value}(h1:es[i]?=some e)(U:e[j]?=some v):c9 (j6 es) i j=some (.v v):=by
 simp[c9,j6,h1,U]
structure Row (w:World) (b off k cap:Nat) (arr:Array Value) (ty:TypeId) (es:List (List Value)):Prop where
 heap:w.heap[b]?=some (.cells arr ty (0,0))
 room:es.length<=cap
 fit:off+cap*k<=arr.size
 len:∀e∈es,e.length=k
 one:∀e∈es,∀v∈e,v.oneCell'=true
 cell:∀i j e v,es[i]?=some e->e[j]?=some v->arr[off+i*k+j]?=some v
variable{w:World}{k:Nat}
theorem Row.rep{b off cap:Nat}{arr:Array Value}{ty:TypeId}(h:Row w b off k cap arr ty es){ω:Own}{R:List (Nat×Nat)->c8->Prop}(dT:R [] (ω b)):
  b7 w ω R (.J k (j6 es)) (.slice (some ⟨b,off,none⟩) es.length cap):=by
 have:=b7.row (w:=w) (ω:=ω) R k (j6 es) b off cap arr ty (0,0) (fun i j=>arr.getD (off+i*k+j) undef) h.heap dT (by rw[EE];exact h.room) h.fit
  (by intro e he;simp only[j6,jX]at he;obtain⟨bM,bg,rfl⟩:=he;simpa using h.len bM bg)
  (by
   intro i j d aE;obtain⟨e,v,h1,U,rfl⟩:=Tn aE;have:=h.cell i j e v h1 U;simp[ew,this])
  (by
   intro i j d aE;obtain⟨e,v,h1,U,rfl⟩:=Tn aE;have ax:=h.cell i j e v h1 U;have:arr.getD (off+i*k+j) undef=v:=by simp[ew,ax]
   rw[this];exact .v _ _ (h.one e (fF h1) v (fF U)))
 rwa[EE]at this
theorem He.row{w:World}{ω:Own}(av:He w ω){t:Nat}{y:Value}(h:b7 w ω (Tag.own t).R (.J k (j6 es)) y):
  (es=[]/\∃a,y=.slice a 0 0)\/∃b off cap arr ty,ω b=.tok t []/\y=.slice (some ⟨b,off,none⟩) es.length cap/\Row w b off k cap arr ty es:=by
 generalize aE:D.J k (j6 es)=d at h;cases h with
 | nil R k a=>
  simp only[D.J.injEq]at aE;exact .inl ⟨by simpa[j6]using aE.2,a,rfl⟩
 | row R k cH b off cap arr ty c0 us aj dT ak ai hk hu dP=>
  simp only[D.J.injEq]at aE;obtain⟨rfl,rfl⟩:=aE;simp only[Tag.R]at dT;obtain⟨_,cf,qU,ax⟩:=av b (by rw[dT];simp);rw[aj]at ax;simp only[aX,Obj.cells.injEq]at ax;obtain⟨rfl,rfl,rfl⟩:=ax;refine .inr ⟨b,off,cap,arr,ty,dT,by rw[EE],aj,by rwa[EE]at ak,ai,fun e he=>?_,fun e he v bF=>?_,fun i j e v h1 U=>?_⟩
  ·have:=hk (e.map .v) (by simp only[j6,jX];exact⟨e,he,rfl⟩);simpa using this
  ·obtain⟨i,hi⟩:=r8.1 he;obtain⟨j,bd⟩:=r8.1 bF;have:=dP i j (.v v) (HC hi bd);generalize us i j=u at this;cases this with
   | v _ _ h1=>exact h1
  have ax:=hu i j (.v v) (HC h1 U);have aK:=dP i j (.v v) (HC h1 U);generalize us i j=u at ax aK;cases aK with
  | v=>exact ax
 | v=>cases aE
 | ptr=>cases aE
 | cl=>cases aE
structure O9 (w aS:World) (own:Nat->Prop) (k:Nat) (es:List (List Value)) (v:Value):Prop where
 ayO:O7 ⟨w,own,fun _=>(0,undef)⟩ aS
 row:(es=[]/\∃a,v=.slice a 0 0)\/∃b off cap arr ty,(own b\/w.heap.size<=b)/\v=.slice (some ⟨b,off,none⟩) es.length cap/\Row aS b off k cap arr ty es
theorem O9.res{aS:World}{ω:Own}{v:Value}(h:O9 w aS (fun b=>ω b≠.bO) k es v):
  ∃a':Own,(∀b,b<w.heap.size->ω b=.bO->a' b=.bO)/\(∀b,a' b≠.bO->(∃t q,a' b=.tok t q)/\∃arr ty,aS.heap[b]?=some (.cells arr ty (0,0)))/\nO aS a' [.one (.J k (j6 es))] v:=by
 rcases h.row with⟨rfl,a,rfl⟩ | ⟨b,off,cap,arr,ty,aU,rfl,aA⟩
 ·exact⟨fun _=>.bO,fun _ _ _=>rfl,fun b aj=>absurd rfl aj,b7.nil _ k a⟩
 refine⟨fun c=>if c=b then .tok 0 [] else .bO,fun c ak he=>?_,fun c ak=>?_,?_⟩
 ·by_cases e:c=b
  ·subst e;rcases aU with aU | aU
   ·exact absurd he aU
   omega
  simp only[ba e]
 ·by_cases e:c=b
  ·subst e;exact⟨⟨0,[],by simp⟩,arr,ty,aA.heap⟩
  simp only[ba e]at ak;exact absurd rfl ak
 exact aA.rep (R:=(Tag.own 0).R) (by simp[Tag.R])
@[simp] theorem setRow_drawn (w : World) (b : Nat) (cs : Array Value) : (w.setRow b cs).drawn = w.drawn := rfl
theorem azQ{own:Nat->Prop}{b:Nat}(aj:own b)(tB Ha:Array Value):O7 ⟨w,own,fun _=>(0,undef)⟩ ((w.drew.setRow b tB).setRow b Ha):=by
 refine⟨rfl,rfl,rfl,by simp,fun k hk av=>?_,?_⟩
 ·have:k≠b:=fun e=>av (by rw[e];exact aj)
  rw[setRow_other _ b k _ this,setRow_other _ b k _ this];rfl
 intro _;show w.drawn<=w.drawn+1;omega
