import Derived.Test.YtdchjefneblpgaaGreatR15
set_option linter.unusedVariables false
set_option linter.unusedSimpArgs false
namespace Go.Sx
open Go.RowKit
def eR.leaf(t:Nat):eR->aC
 | .ro d=>d.leaf .free
 | .eM k es _=>.J (.own t) k es
def ub(i:Nat):Nat->List eR->List aC
 | _,[]=>[]
 | j,c::cs=>c.leaf (eL i j)::ub i (j+1) cs
def GA.aD(i:Nat):GA->bd
 | .one c=>.one (c.leaf (eL i 0))
 | .agg cs=>.agg (ub i 0 cs)
def tD:Nat->List GA->List aB
 | _,[]=>[]
 | i,a::as=>.aD (a.aD i)::tD (i+1) as
def xR(args:List GA)(ntmps:Nat):aE:=⟨tD 0 args++List.replicate (ntmps-args.length) .cc,[]⟩
def eR.post:eR->aC->eR
 | .eM k es (some _),.J (.own _) b8 cp=>if b8=k then .eM k es (some cp) else .eM k es none
 | .eM k es _,_=>.eM k es none
 | c,_=>c
def MZ(args:List GA):Bool:=args.all fun | .one _=>true | .agg cs=>decide (cs.length<=100)
def M0(args:List GA)(t:Nat):Nat:=
 match (args[(t-c5) / 100]?).bind (GA.cell ((t-c5) % 100)) with
 | some (.eM k _ _)=>k
 | _=>0
def zv(args:List GA)(vs:Array Value)(t:Nat):Nat×Value:=(M0 args t,cellOf (vs.getD ((t-c5) / 100) undef) ((t-c5) % 100))
theorem Gr{args:List GA}{vs:Array Value}{i j:Nat}(aM:j<100){ed:GA}(ag:args[i]?=some ed){k:Nat}{es:List (List D)}{post:Option (List (List D))}(ad:ed.cell j=some (.eM k es post)):
  zv args vs (eL i j)=(k,cellOf (vs.getD i undef) j):=by
 have e1:(eL i j-c5) / 100=i:=by simp only[eL];omega
 have e2:(eL i j-c5) % 100=j:=by simp only[eL];omega
 simp only[zv,M0,e1,e2,ag,nh,ad]
theorem P1(i:Nat):∀(cs:List eR) (j x:Nat),(ub i j cs)[x]?=(cs[x]?).map fun c=>c.leaf (eL i (j+x))
 | [],j,x=>by simp[ub]
 | c::cs,j,0=>by simp[ub]
 | c::cs,j,x+1=>by
  simp only[ub,nY,P1 i cs (j+1) x];rw[show j+1+x=j+(x+1) by omega]
theorem P2(i:Nat):∀(cs:List eR) (j:Nat),(ub i j cs).length=cs.length
 | [],_=>rfl
 | c::cs,j=>by simp[ub,P2 i cs (j+1)]
theorem P3:∀(as:List GA) (i x:Nat),(tD i as)[x]?=(as[x]?).map fun a=>.aD (a.aD (i+x))
 | [],i,x=>by simp[tD]
 | a::as,i,0=>by simp[tD]
 | a::as,i,x+1=>by
  simp only[tD,nY,P3 as (i+1) x];rw[show i+1+x=i+(x+1) by omega]
theorem Ji:∀(as:List GA) (i:Nat),(tD i as).length=as.length
 | [],_=>rfl
 | a::as,i=>by simp[tD,Ji as (i+1)]
theorem u5.sat{w:World}{ω:Own}{τ:Nat->Nat×Value}{t:Nat}{c:eR}{y:Value}(h:u5 w ω t c y)(sK:∀k es post,c=.eM k es post->τ t=(k,y)):Sat w ω τ (c.leaf t) y:=by
 cases c with
 | ro d=>exact D.dw (t:=.free) (p:=(0,0)) h
 | eM k es post=>exact⟨h,sK k es post rfl⟩
theorem akz{w:World}{ω:Own}{args:List GA}{vs:Array Value}(dD:MZ args=true)(h:FV w ω args vs)(kE:Tidy w ω)(ntmps:Nat):
  Rel ⟨w,fun b=>ω b≠.bx,zv args vs⟩ (xR args ntmps) { tmps:=vs++Array.replicate (ntmps-vs.size) undef,defers:=[] } w:=by
 obtain⟨ao,aL,ag⟩:=h;refine⟨ω,zv args vs,rfl,by simp[xR,aL,Ji],gn.start kE,fun b ah=>⟨.inr ah,(ao b ah).2⟩,fun _ _=>rfl,(fun id b _ ah=>by
  obtain⟨⟨t,q,e,_⟩,_⟩:=ao b (by rw[ah];simp);rw[ah]at e;cases e),?_,fun id ls af=>by simp[xR,dj]at af⟩
 intro i p hp;simp only[xR]at hp;rw[lc,Ji]at hp;split at hp
 ·rename_i hi;rw[P3,bX]at hp;obtain⟨ed,fw,rfl⟩:=hp;rw[c'];obtain⟨v,bj,bH⟩:=ag i ed fw;have ka:i<vs.size:=by omega
  refine⟨v,by rw[hj,a6 ka,bj],?_⟩;have N4:vs.getD i undef=v:=by simp[ea,bj]
  cases ed with
  | one c=>
   refine u5.sat bH fun k es post ad=>?_
   have:=Gr (args:=args) (vs:=vs) (i:=i) (j:=0) (by omega) fw (k:=k) (es:=es) (post:=post) (by simp[GA.cell,ad]);rw[this,N4];subst ad;have ar:bR w ω (Tag.own (eL i 0)).R (.J k es) v:=bH;obtain⟨b,c,rfl⟩:=ar.len;rfl
  | agg cs=>
   obtain⟨us,rfl,hlen,mC⟩:=bH;refine⟨us,rfl,by rw[P2];exact hlen,fun j l af=>?_⟩;rw[P1,bX]at af;obtain⟨c,ad,rfl⟩:=af;rw[c'];obtain⟨u,hu,bH⟩:=mC j c ad;have aM:j<100:=by
    have h1:=fN.1 dD _ (e4 fw);simp only[ci]at h1;have:=(dK.1 ad).1;omega
   refine⟨u,hu,u5.sat bH fun k es post e=>?_⟩;rw[Gr (args:=args) (vs:=vs) aM fw (k:=k) (es:=es) (post:=post) (by simp only[GA.cell,ad,e]),N4];simp[cellOf,Value.cells,ea,hu]
 rename_i hi;rw[zd]at hp;split at hp
 ·rename_i bq;simp only[aQ]at hp;subst hp;refine⟨undef,?_,aj⟩;rw[hj,aX (by omega),Array.getElem?_replicate,a6 (by omega)]
 cases hp
end Go.Sx
namespace Go.Sx
open Go.RowKit
def eR.found(t:Nat):eR->Option aC->eR×ib
 | .ro d,_=>(.ro d,[])
 | .eM k es (some _),some (.J (.own s) b8 cp)=>if s=t/\b8=k then (.eM k es (some cp),[(t,t)]) else (.eM k es none,[])
 | .eM k es _,_=>(.eM k es none,[])
def nP(i:Nat):Nat->List eR->List aC->List eR×ib
 | _,[],_=>([],[])
 | j,c::cs,ls=>((c.found (eL i j) ls.head?).1::(nP i (j+1) cs ls.tail).1,(c.found (eL i j) ls.head?).2++(nP i (j+1) cs ls.tail).2)
def GA.found(i:Nat):GA->aB->GA×ib
 | .one c,p=>(.one (c.found (eL i 0) p.leaf).1,(c.found (eL i 0) p.leaf).2)
 | .agg cs,.aD (.agg ls)=>(.agg (nP i 0 cs ls).1,(nP i 0 cs ls).2)
 | .agg cs,_=>(.agg (nP i 0 cs []).1,(nP i 0 cs []).2)
def k5:Nat->List GA->List aB->List GA×ib
 | _,[],_=>([],[])
 | i,a::as,cw=>((a.found i (cw.headD .cc)).1::(k5 (i+1) as cw.tail).1,(a.found i (cw.headD .cc)).2++(k5 (i+1) as cw.tail).2)
theorem eR.CL{t:Nat}{c:eR}{l:Option aC}{k:Nat}{es cp:List (List D)}(h:(c.found t l).1=.eM k es (some cp)):l=some (.J (.own t) k cp)/\(t,t)∈(c.found t l).2:=by
 unfold eR.found at h ⊢;split at h
 ·cases h
 ·rename_i dp dx p s b8 ard;split at h
  ·rename_i ad;obtain⟨rfl,rfl⟩:=ad;simp only[eR.eM.injEq,aQ]at h;obtain⟨rfl,_,rfl⟩:=h;exact⟨rfl,by simp⟩
  cases h
 cases h
theorem Jj(i:Nat):∀{cs:List eR} {ls:List aC} {j x k:Nat} {es cp:List (List D)},(nP i j cs ls).1[x]?=some (.eM k es (some cp))->
  ls[x]?=some (.J (.own (eL i (j+x))) k cp)/\(eL i (j+x),eL i (j+x))∈(nP i j cs ls).2
 | [],ls,j,x,k,es,cp,h=>by simp[nP]at h
 | c::cs,ls,j,0,k,es,cp,h=>by
  simp only[nP,iy,aQ]at h;obtain⟨h1,U⟩:=eR.CL h;refine⟨by cases ls<;>simp_all,?_⟩;simp only[nP];exact gm _ U
 | c::cs,ls,j,x+1,k,es,cp,h=>by
  simp only[nP,nY]at h;obtain⟨h1,U⟩:=Jj i h;rw[show j+1+x=j+(x+1) by omega]at h1 U;refine⟨by cases ls<;>simp_all,?_⟩;simp only[nP];exact hZ _ U
def yo(j:Nat):bd->Option aC
 | .one l=>if j=0 then some l else none
 | .agg ls=>ls[j]?
theorem GA.CL{i j:Nat}{a:GA}{p:aB}{k:Nat}{es cp:List (List D)}(h:(a.found i p).1.cell j=some (.eM k es (some cp))):
  ∃aD,p=.aD aD/\yo j aD=some (.J (.own (eL i j)) k cp)/\(eL i j,eL i j)∈(a.found i p).2:=by
 cases a with
 | one c=>
  simp only[GA.found,GA.cell]at h ⊢;split at h
  ·rename_i aM;subst aM;simp only[aQ]at h;obtain⟨h1,U⟩:=eR.CL h;cases p with
   | fM as=>cases h1
   | aD a=>
    cases a with
    | agg ls=>cases h1
    | one l=>
     simp only[aB.leaf,aQ]at h1;exact⟨_,rfl,by simp[yo,h1],U⟩
  cases h
 | agg cs=>
  have Ot:∀q:List eR×ib,q=nP i 0 cs []->q.1[j]?=some (.eM k es (some cp))->False:=by
   rintro q rfl h;have:=(Jj i h).1;simp at this
  cases p with
  | fM as=>exact (Ot _ rfl h).elim
  | aD a=>
   cases a with
   | one l=>exact (Ot _ rfl h).elim
   | agg ls=>
    simp only[GA.found,GA.cell]at h ⊢;obtain⟨h1,U⟩:=Jj i h;rw[c']at h1 U;exact⟨_,rfl,by simp[yo,h1],U⟩
theorem P4:∀{as:List GA} {cw:List aB} {i x j:Nat} {a:GA} {k:Nat} {es cp:List (List D)},(k5 i as cw).1[x]?=some a->a.cell j=some (.eM k es (some cp))->
  ∃aD,cw[x]?=some (.aD aD)/\yo j aD=some (.J (.own (eL (i+x) j)) k cp)/\(eL (i+x) j,eL (i+x) j)∈(k5 i as cw).2
 | [],cw,i,x,j,a,k,es,cp,h,_=>by simp[k5]at h
 | b::as,cw,i,0,j,a,k,es,cp,h,ad=>by
  simp only[k5,iy,aQ]at h;subst h;obtain⟨aD,h1,U,au⟩:=GA.CL ad;refine⟨aD,?_,U,?_⟩
  ·cases cw with
   | nil=>
    simp only[List.headD_nil]at h1;cases h1;simp only[yo]at U;split at U<;>simp at U
   | cons p cw=>simpa using h1
  simp only[k5];exact gm _ au
 | b::as,cw,i,x+1,j,a,k,es,cp,h,ad=>by
  simp only[k5,nY]at h;obtain⟨aD,h1,U,au⟩:=P4 h ad;rw[show i+1+x=i+(x+1) by omega]at U au;refine⟨aD,by cases cw<;>simp_all,U,?_⟩;simp only[k5];exact hZ _ au
def rT(P:Program)(st:aE)(jJ:List ResultVar)(args:List GA)(hint:List cH):Option (List cH×List GA):=
 match jJ.mapM (qw P st) with
 | some cw=>
  match rU 0 cw hint with
  | some (ds,ts)=>if MZ args&&EI (ts++(k5 0 args st.env).2) then some (ds,(k5 0 args st.env).1) else none
  | none=>none
 | none=>none
theorem P5{P:Program}{f:FuncId}{fn:Func}{c:Code}{args:List GA}{rs:List cH}{ans ch:List b4}{obs:List Prop}{e:gO}{st:aE}(bl:P.funcs[f]?=some fn)(ah:fn.body=some c)
  (eZ:run P c (xR args fn.ntmps) ans=some (e,st,ch,obs)) (aN:cB obs) (he:e=.ret\/e=.normal) (eA:rT P st fn.results.toList args rs=some (rs,args)):nm P f args rs:=by
 intro w vs Cl mA kE;unfold rT at eA;split at eA
 ·rename_i cw sB;split at eA
  ·rename_i ds ts eo;split at eA
   ·rename_i bH;simp only[aQ,bw]at eA;obtain⟨rfl,Xx⟩:=eA;rw[ca]at bH;obtain⟨dD,bH⟩:=bH;refine calls_of_wp bl ah (Code.wp_mono (fun e' cy aG hp=>?_) (nO c eZ aN _ _ w (akz dD mA kE fn.ntmps)));obtain⟨rfl,ω,τ,aV⟩:=hp;obtain⟨zs,h1,U,au⟩:=EL aV sB;obtain⟨aH,ba⟩:=EK (w:=aG) (ω:=ω) (τ:=τ) (ts:=ts++(k5 0 args st.env).2) (fun t n h=>EJ bH h) eo (fun x aa=>gm _ aa);have hm:=DJ (P:=P) _ fn.results aG _ h1;have eU:∀(j:Nat) (d:cH),ds[j]?=some d->∃z,zs[j]?=some z/\l4 aG (iM ω (ts++(k5 0 args st.env).2)) j d z:=by
     intro j d ax;obtain⟨p,hp,sy⟩:=ba j d ax;obtain⟨z,aR,p'⟩:=au j p hp;exact⟨z,aR,by have:=sy z p';rwa[c']at this⟩
    have l0:zs.length=ds.length:=by omega
    have h3:∀v,(if h:zs.toArray.size=1 then zs.toArray[0] else .tuple zs.toArray)=v->mY aG (iM ω (ts++(k5 0 args st.env).2)) ds v:=by
     intro v bj;unfold mY;split
     ·rename_i cj;obtain⟨z,aR,ad⟩:=eU 0 cj rfl;have h1:zs.length=1:=by rw[l0];rfl
      have pb:zs=[z]:=by
       match zs,h1,aR with
       | [z0],_,aR=>simp at aR;rw[aR]
      have z':v=z:=by
       rw[<-bj];simp[pb]
      rw[z'];exact ad
     rename_i b5;have h1:¬zs.toArray.size=1:=by
      intro h;simp at h;rw[l0]at h;obtain⟨d,ax⟩:=List.length_eq_one_iff.1 h;exact b5 d ax
     rw[dif_neg h1]at bj;exact⟨zs.toArray,bj.symm,by simpa using l0,fun r cj ar=>by obtain⟨z,aR,ad⟩:=eU r cj ar;exact⟨z,by simpa using aR,ad⟩⟩
    have G5:Kept aG (iM ω (ts++(k5 0 args st.env).2)) args vs:=by
     intro i j ed k es cp fw ad;have XA:(k5 0 args st.env).1[i]?=some ed:=by rw[Xx];exact fw
     obtain⟨aD,br,b7,dV⟩:=P4 XA ad;rw[c']at b7 dV;obtain⟨v,bj,ae⟩:=aV.env i _ br;have eB:∃u,Sat aG ω τ (.J (.own (eL i j)) k cp) u:=by
      cases aD with
      | one l=>
       simp only[yo]at b7;split at b7
       ·simp only[aQ]at b7;exact⟨v,b7▸ae⟩
       cases b7
      | agg ls=>
       obtain⟨us,_,_,hu⟩:=ae;obtain⟨u,_,e5⟩:=hu j _ b7;exact⟨u,e5⟩
     obtain⟨u,ar,bI⟩:=eB;have aM:j<100:=by
      cases ed with
      | one c=>simp only[GA.cell]at ad;split at ad<;>first | omega | cases ad
      | agg cs=>
       have h1:=fN.1 dD _ (e4 fw);simp only[ci]at h1;have:=(dK.1 ad).1;omega
     have q5:=aV.fixed (eL i j) (by simp[eL]);have XC:=Gr (args:=args) (vs:=vs) aM fw ad;have:u=cellOf (vs.getD i undef) j:=by
      have e5:τ (eL i j)=(k,u):=bI;rw[q5]at e5;have ek:zv args vs (eL i j)=(k,u):=e5;rw[XC]at ek;exact (Prod.mk.inj ek).2.symm
     subst this;refine ar.frame fun b q _ av=>⟨?_,rfl⟩
     simp only[Tag.R]at av ⊢;have:=EJ bH (hZ ts dV);simp only[iM,av,this]
    have dI:∃v,(results fn cy.tmps).run P aG=.ok v aG/\∃u,Ending.returned v=.returned u/\gn ⟨w,fun b=>Cl b≠.bx,fun _=>(0,undef)⟩ aG/\
      ∃aY:Own,(∀b,b<w.heap.size->Cl b=.bx->aY b=.bx)/\(∀b,aY b≠.bx->(∃t q,aY b=.tok t q)/\∃arr ty,aG.heap[b]?=some (.cells arr ty (0,0)))/\Kept aG aY args vs/\mY aG aY ds u:=by
     refine⟨_,?_,_,rfl,⟨aV.below.os,aV.below.tape,aV.below.output,aV.below.size,aV.below.block,aV.below.drawn,aV.below.laid,aV.below.free⟩,iM ω (ts++(k5 0 args st.env).2),fun b ah ao=>?_,fun b ah=>?_,G5,h3 _ rfl⟩
     ·rw[Jd,Sem.run_bind,hm];rfl
     ·cases cQ:ω b with
      | bx=>simp[iM,cQ]
      | box id=>simp[iM,cQ]
      | tok t q=>
       rcases (aV.owned b (by simp[cQ])).1 with h | h
       ·exact absurd ah (by have h:w.heap.size<=b:=h;omega)
       exact absurd ao h
     cases cQ:ω b with
     | bx=>simp[iM,cQ]at ah
     | box id=>simp[iM,cQ]at ah
     | tok t q=>
      refine⟨?_,(aV.owned b (by simp[cQ])).2⟩;simp only[iM,cQ]at ah ⊢;cases kd:(ts++(k5 0 args st.env).2).at t with
      | none=>simp[kd]at ah
      | some n=>exact⟨n,q,rfl⟩
    obtain⟨v,br,b7⟩:=dI;rcases he with rfl | rfl
    ·exact⟨aV.defers,v,br,b7⟩
    exact⟨aV.defers,v,br,b7⟩
   cases eA
  cases eA
 cases eA
def Ow(P:Program)(c:Code)(ntmps:Nat)(jJ:List ResultVar)(args:List GA)(hint:List cH)(ans:List b4):Option (List cH×List GA×List Prop):=
 match run P c (xR args ntmps) ans with
 | some (.ret,st,_,obs)=>(rT P st jJ args hint).map fun rs=>(rs.1,rs.2,obs)
 | some (.normal,st,_,obs)=>(rT P st jJ args hint).map fun rs=>(rs.1,rs.2,obs)
 | _=>none
theorem nm.of{P:Program}{f:FuncId}{fn:Func}{args:List GA}{rs:List cH}(ans:List b4)(obs:List Prop)(bl:P.funcs[f]?=some fn)(ah:fn.body.isSome=true)
  (h:Ow P (oL fn) fn.ntmps fn.results.toList args rs ans=some (rs,args,obs)) (aN:cB obs):nm P f args rs:=by
 obtain⟨c,ad⟩:=pL.1 ah;have zF:oL fn=c:=by simp[oL,ad]
 unfold Ow at h;rw[zF]at h;split at h
 ·rename_i st a mR ar;rw[bX]at h;obtain⟨⟨y2,L0⟩,h1,h⟩:=h;simp only[bw]at h;obtain⟨rfl,rfl,rfl⟩:=h;exact P5 bl ad ar aN (.inl rfl) h1
 ·rename_i st a mR ar;rw[bX]at h;obtain⟨⟨y2,L0⟩,h1,h⟩:=h;simp only[bw]at h;obtain⟨rfl,rfl,rfl⟩:=h;exact P5 bl ad ar aN (.inr rfl) h1
 cases h
end Go.Sx
namespace Go.Sx
open Go.RowKit
def fE(es:List (List Value)):List (List D):=es.map (·.map .v)
theorem EP(es:List (List Value)):(fE es).length=es.length:=by simp[fE]
variable{es:List (List Value)}
theorem P6{i j:Nat}{d:D}(h:cX (fE es) i j=some d):∃e v,es[i]?=some e/\e[j]?=some v/\d=.v v:=by
 unfold cX fE at h;rw[c9]at h;cases e1:es[i]? with
 | none=>simp[e1]at h
 | some e=>
  simp only[e1,mn,nh,c9,bX]at h;obtain⟨v,h1,rfl⟩:=h;exact⟨e,v,rfl,h1,rfl⟩
theorem Gl{i j:Nat}{e:List Value}{v:Value}(h1:es[i]?=some e)(U:e[j]?=some v):cX (fE es) i j=some (.v v):=by
 simp[cX,fE,h1,U]
structure Row (w:World) (b off k cap:Nat) (arr:Array Value) (ty:TypeId) (es:List (List Value)):Prop where
 heap:w.heap[b]?=some (.cells arr ty (0,0))
 room:es.length<=cap
 fit:off+cap*k<=arr.size
 len:∀e∈es,e.length=k
 one:∀e∈es,∀v∈e,v.oneCell'=true
 cell:∀i j e v,es[i]?=some e->e[j]?=some v->arr[off+i*k+j]?=some v
variable{w:World}{k:Nat}
theorem Row.rep{b off cap:Nat}{arr:Array Value}{ty:TypeId}(h:Row w b off k cap arr ty es){ω:Own}{R:List (Nat×Nat)->cS->Prop}(dI:R [] (ω b)):
  bR w ω R (.J k (fE es)) (.slice (some ⟨b,off,none⟩) es.length cap):=by
 have:=bR.row (w:=w) (ω:=ω) R k (fE es) b off cap arr ty (0,0) (fun i j=>arr.getD (off+i*k+j) undef) h.heap dI (by rw[EP];exact h.room) h.fit
  (by intro e he;simp only[fE,h']at he;obtain⟨bE,bm,rfl⟩:=he;simpa using h.len bE bm)
  (by
   intro i j d ax;obtain⟨e,v,h1,U,rfl⟩:=P6 ax;have:=h.cell i j e v h1 U;simp[ea,this])
  (by
   intro i j d ax;obtain⟨e,v,h1,U,rfl⟩:=P6 ax;have au:=h.cell i j e v h1 U;have:arr.getD (off+i*k+j) undef=v:=by simp[ea,au]
   rw[this];exact .v _ _ (h.one e (e4 h1) v (e4 U)))
 rwa[EP]at this
theorem FW.row{w:World}{ω:Own}(ao:FW w ω){t:Nat}{y:Value}(h:bR w ω (Tag.own t).R (.J k (fE es)) y):
  (es=[]/\∃a,y=.slice a 0 0)\/∃b off cap arr ty,ω b=.tok t []/\y=.slice (some ⟨b,off,none⟩) es.length cap/\Row w b off k cap arr ty es:=by
 generalize ax:D.J k (fE es)=d at h;cases h with
 | nil R k a=>
  simp only[D.J.injEq]at ax;exact .inl ⟨by simpa[fE]using ax.2,a,rfl⟩
 | row R k cp b off cap arr ty cO us ah dI ad ae hk hu dC=>
  simp only[D.J.injEq]at ax;obtain⟨rfl,rfl⟩:=ax;simp only[Tag.R]at dI;obtain⟨_,b3,qH,au⟩:=ao b (by rw[dI];simp);rw[ah]at au;simp only[aQ,Obj.cells.injEq]at au;obtain⟨rfl,rfl,rfl⟩:=au;refine .inr ⟨b,off,cap,arr,ty,dI,by rw[EP],ah,by rwa[EP]at ad,ae,fun e he=>?_,fun e he v bj=>?_,fun i j e v h1 U=>?_⟩
  ·have:=hk (e.map .v) (by simp only[fE,h'];exact⟨e,he,rfl⟩);simpa using this
  ·obtain⟨i,hi⟩:=ng.1 he;obtain⟨j,aM⟩:=ng.1 bj;have:=dC i j (.v v) (Gl hi aM);generalize us i j=u at this;cases this with
   | v _ _ h1=>exact h1
  have au:=hu i j (.v v) (Gl h1 U);have aH:=dC i j (.v v) (Gl h1 U);generalize us i j=u at au aH;cases aH with
  | v=>exact au
 | v=>cases ax
 | ptr=>cases ax
 | cl=>cases ax
structure FX (w aG:World) (own:Nat->Prop) (k:Nat) (es:List (List Value)) (v:Value):Prop where
 Wk:oZ ⟨w,own,fun _=>(0,undef)⟩ aG
 row:(es=[]/\∃a,v=.slice a 0 0)\/∃b off cap arr ty,(own b\/w.heap.size<=b)/\v=.slice (some ⟨b,off,none⟩) es.length cap/\Row aG b off k cap arr ty es
variable{ω:Own}
theorem FX.res{aG:World}{v:Value}(h:FX w aG (fun b=>ω b≠.bx) k es v):
  ∃aY:Own,(∀b,b<w.heap.size->ω b=.bx->aY b=.bx)/\(∀b,aY b≠.bx->(∃t q,aY b=.tok t q)/\∃arr ty,aG.heap[b]?=some (.cells arr ty (0,0)))/\mY aG aY [.one (.J k (fE es))] v:=by
 rcases h.row with⟨rfl,a,rfl⟩ | ⟨b,off,cap,arr,ty,aN,rfl,ar⟩
 ·exact⟨fun _=>.bx,fun _ _ _=>rfl,fun b ah=>absurd rfl ah,bR.nil _ k a⟩
 refine⟨fun c=>if c=b then .tok 0 [] else .bx,fun c ad he=>?_,fun c ad=>?_,?_⟩
 ·by_cases e:c=b
  ·subst e;rcases aN with aN | aN
   ·exact absurd he aN
   omega
  simp only[aX e]
 ·by_cases e:c=b
  ·subst e;exact⟨⟨0,[],by simp⟩,arr,ty,ar.heap⟩
  simp only[aX e]at ad;exact absurd rfl ad
 exact ar.rep (R:=(Tag.own 0).R) (by simp[Tag.R])
def D.tn:D->Value
 | .v x=>x
 | _=>undef
variable{vs:Array Value}
theorem ML{a b:Value}(h:vs.size=2)(bm:vs[0]?=some a)(h1:vs[1]?=some b):vs=#[a,b]:=by
 apply Array.ext
 ·simpa using h
 intro i hi _;have ka:i<2:=by omega
 match i,ka with
 | 0,_=>simpa[gN hi]using bm
 | 1,_=>simpa[gN hi]using h1
theorem Wh{a b c:Value}(h:vs.size=3)(bm:vs[0]?=some a)(h1:vs[1]?=some b)(U:vs[2]?=some c):vs=#[a,b,c]:=by
 apply Array.ext
 ·simpa using h
 intro i hi _;have ka:i<3:=by omega
 match i,ka with
 | 0,_=>simpa[gN hi]using bm
 | 1,_=>simpa[gN hi]using h1
 | 2,_=>simpa[gN hi]using U
theorem bR.Gi{R:List (Nat×Nat)->cS->Prop}{x y:Value}(h:bR w ω R (.v x) y):y=x:=by
 cases h;rfl
theorem akA{args:List GA}(h:∀(i j:Nat) (ed:GA) (k:Nat) (es cp:List (List D)),args[i]?=some ed->ed.cell j=some (.eM k es (some cp))->False):Kept w ω args vs:=
 fun i j ed k es cp h1 U=>(h i j ed k es cp h1 U).elim
@[simp] theorem setRow_drawn (w : World) (b : Nat) (cs : Array Value) : (w.setRow b cs).drawn = w.drawn := rfl
theorem akB{own:Nat->Prop}{b:Nat}(ah:own b)(hQ FR:Array Value):oZ ⟨w,own,fun _=>(0,undef)⟩ ((w.drew.setRow b hQ).setRow b FR):=by
 refine⟨rfl,rfl,rfl,by simp,fun k hk ao=>?_,?_⟩
 ·have:k≠b:=fun e=>ao (by rw[e];exact ah)
  rw[setRow_other _ b k _ this,setRow_other _ b k _ this];rfl
 intro _;show w.drawn<=w.drawn+1;omega
