import Derived.Test.YtdchjefneblpgaaR15
set_option linter.unusedVariables false
set_option linter.unusedSimpArgs false
namespace Go.Sx
open Go.RowKit
def dP.leaf(t:Nat):dP->aq
 | .ro d=>d.leaf .free
 | .ed k es _=>.aa (.own t) k es
def q4(i:Nat):Nat->List dP->List aq
 | _,[]=>[]
 | j,c::cs=>c.leaf (eh i j)::q4 i (j+1) cs
def GA.aN(i:Nat):GA->bi
 | .one c=>.one (c.leaf (eh i 0))
 | .agg cs=>.agg (q4 i 0 cs)
def qm:Nat->List GA->List az
 | _,[]=>[]
 | i,a::as=>.aN (a.aN i)::qm (i+1) as
def tF(args:List GA)(ntmps:Nat):aG:=⟨qm 0 args++List.replicate (ntmps-args.length) .b5,[]⟩
def dP.post:dP->aq->dP
 | .ed k es (some _),.aa (.own _) bS bV=>if bS=k then .ed k es (some bV) else .ed k es none
 | .ed k es _,_=>.ed k es none
 | c,_=>c
def Hg(args:List GA):Bool:=args.all fun | .one _=>true | .agg cs=>decide (cs.length<=100)
def Hh(args:List GA)(t:Nat):Nat:=
 match (args[(t-cy) / 100]?).bind (GA.cell ((t-cy) % 100)) with
 | some (.ed k _ _)=>k
 | _=>0
def u5(args:List GA)(vs:Array Value)(t:Nat):Nat×Value:=(Hh args t,cellOf (vs.getD ((t-cy) / 100) undef) ((t-cy) % 100))
theorem A8{args:List GA}{vs:Array Value}{i j:Nat}(aU:j<100){dD:GA}(aC:args[i]?=some dD){k:Nat}{es:List (List D)}{post:Option (List (List D))}(ai:dD.cell j=some (.ed k es post)):
  u5 args vs (eh i j)=(k,cellOf (vs.getD i undef) j):=by
 have aK:(eh i j-cy) / 100=i:=by simp only[eh];omega
 have aO:(eh i j-cy) % 100=j:=by simp only[eh];omega
 simp only[u5,Hh,aK,aO,aC,mB,ai]
theorem J8(i:Nat):∀(cs:List dP) (j x:Nat),(q4 i j cs)[x]?=(cs[x]?).map fun c=>c.leaf (eh i (j+x))
 | [],j,x=>by simp[q4]
 | c::cs,j,0=>by simp[q4]
 | c::cs,j,x+1=>by
  simp only[q4,lK,J8 i cs (j+1) x];rw[show j+1+x=j+(x+1) by omega]
theorem J9(i:Nat):∀(cs:List dP) (j:Nat),(q4 i j cs).length=cs.length
 | [],_=>rfl
 | c::cs,j=>by simp[q4,J9 i cs (j+1)]
theorem J':∀(as:List GA) (i x:Nat),(qm i as)[x]?=(as[x]?).map fun a=>.aN (a.aN (i+x))
 | [],i,x=>by simp[qm]
 | a::as,i,0=>by simp[qm]
 | a::as,i,x+1=>by
  simp only[qm,lK,J' as (i+1) x];rw[show i+1+x=i+(x+1) by omega]
theorem Ee:∀(as:List GA) (i:Nat),(qm i as).length=as.length
 | [],_=>rfl
 | a::as,i=>by simp[qm,Ee as (i+1)]
theorem rv.sat{w:World}{ω:Own}{τ:Nat->Nat×Value}{t:Nat}{c:dP}{y:Value}(h:rv w ω t c y)(pF:∀k es post,c=.ed k es post->τ t=(k,y)):Sat w ω τ (c.leaf t) y:=by
 cases c with
 | ro d=>exact D.cW (t:=.free) (p:=(0,0)) h
 | ed k es post=>exact⟨h,pF k es post rfl⟩
theorem Su{w:World}{ω:Own}{args:List GA}{vs:Array Value}(dc:Hg args=true)(h:AL w ω args vs)(nq:Tidy w ω)(ntmps:Nat):
  Rel ⟨w,fun b=>ω b≠.bc,u5 args vs⟩ (tF args ntmps) { tmps:=vs++Array.replicate (ntmps-vs.size) undef,defers:=[] } w:=by
 obtain⟨ag,aR,aC⟩:=h;refine⟨ω,u5 args vs,rfl,by simp[tF,aR,Ee],e8.start nq,fun b ah=>⟨.inr ah,(ag b ah).2⟩,fun _ _=>rfl,(fun id b _ ah=>by
  obtain⟨⟨t,q,e,_⟩,_⟩:=ag b (by rw[ah];simp);rw[ah]at e;cases e),?_,fun id ls ak=>by simp[tF,cM]at ak⟩
 intro i p hp;simp only[tF]at hp;rw[kf,Ee]at hp;split at hp
 ·rename_i hi;rw[J',bF]at hp;obtain⟨dD,jJ,rfl⟩:=hp;rw[cP];obtain⟨v,a8,cb⟩:=aC i dD jJ;have kD:i<vs.size:=by omega
  refine⟨v,by rw[hz,bb kD,a8],?_⟩;have H7:vs.getD i undef=v:=by simp[dF,a8]
  cases dD with
  | one c=>
   refine rv.sat cb fun k es post ai=>?_
   have:=A8 (args:=args) (vs:=vs) (i:=i) (j:=0) (by omega) jJ (k:=k) (es:=es) (post:=post) (by simp[GA.cell,ai]);rw[this,H7];subst ai;have ar:bA w ω (Tag.own (eh i 0)).R (.aa k es) v:=cb;obtain⟨b,c,rfl⟩:=ar.len;rfl
  | agg cs=>
   obtain⟨us,rfl,hlen,iB⟩:=cb;refine⟨us,rfl,by rw[J9];exact hlen,fun j l ak=>?_⟩;rw[J8,bF]at ak;obtain⟨c,ai,rfl⟩:=ak;rw[cP];obtain⟨u,hu,cb⟩:=iB j c ai;have aU:j<100:=by
    have J:=eP.1 dc _ (eD jJ);simp only[cF]at J;have:=(eJ.1 ai).1;omega
   refine⟨u,hu,rv.sat cb fun k es post e=>?_⟩;rw[A8 (args:=args) (vs:=vs) aU jJ (k:=k) (es:=es) (post:=post) (by simp only[GA.cell,ai,e]),H7];simp[cellOf,Value.cells,dF,hu]
 rename_i hi;rw[xr]at hp;split at hp
 ·rename_i bk;simp only[aH]at hp;subst hp;refine⟨undef,?_,aj⟩;rw[hz,aZ (by omega),Array.getElem?_replicate,bb (by omega)]
 cases hp
end Go.Sx
namespace Go.Sx
open Go.RowKit
def dP.found(t:Nat):dP->Option aq->dP×gp
 | .ro d,_=>(.ro d,[])
 | .ed k es (some _),some (.aa (.own s) bS bV)=>if s=t/\bS=k then (.ed k es (some bV),[(t,t)]) else (.ed k es none,[])
 | .ed k es _,_=>(.ed k es none,[])
def kM(i:Nat):Nat->List dP->List aq->List dP×gp
 | _,[],_=>([],[])
 | j,c::cs,ls=>((c.found (eh i j) ls.head?).1::(kM i (j+1) cs ls.tail).1,(c.found (eh i j) ls.head?).2++(kM i (j+1) cs ls.tail).2)
def GA.found(i:Nat):GA->az->GA×gp
 | .one c,p=>(.one (c.found (eh i 0) p.leaf).1,(c.found (eh i 0) p.leaf).2)
 | .agg cs,.aN (.agg ls)=>(.agg (kM i 0 cs ls).1,(kM i 0 cs ls).2)
 | .agg cs,_=>(.agg (kM i 0 cs []).1,(kM i 0 cs []).2)
def iW:Nat->List GA->List az->List GA×gp
 | _,[],_=>([],[])
 | i,a::as,b'=>((a.found i (b'.headD .b5)).1::(iW (i+1) as b'.tail).1,(a.found i (b'.headD .b5)).2++(iW (i+1) as b'.tail).2)
theorem dP.xR{t:Nat}{c:dP}{l:Option aq}{k:Nat}{es bV:List (List D)}(h:(c.found t l).1=.ed k es (some bV)):l=some (.aa (.own t) k bV)/\(t,t)∈(c.found t l).2:=by
 unfold dP.found at h ⊢;split at h
 ·cases h
 ·rename_i et cX p s bS aeV;split at h
  ·rename_i ai;obtain⟨rfl,rfl⟩:=ai;simp only[dP.ed.injEq,aH]at h;obtain⟨rfl,_,rfl⟩:=h;exact⟨rfl,by simp⟩
  cases h
 cases h
theorem Ef(i:Nat):∀{cs:List dP} {ls:List aq} {j x k:Nat} {es bV:List (List D)},(kM i j cs ls).1[x]?=some (.ed k es (some bV))->
  ls[x]?=some (.aa (.own (eh i (j+x))) k bV)/\(eh i (j+x),eh i (j+x))∈(kM i j cs ls).2
 | [],ls,j,x,k,es,bV,h=>by simp[kM]at h
 | c::cs,ls,j,0,k,es,bV,h=>by
  simp only[kM,jB,aH]at h;obtain⟨J,U⟩:=dP.xR h;refine⟨by cases ls<;>simp_all,?_⟩;simp only[kM];exact gl _ U
 | c::cs,ls,j,x+1,k,es,bV,h=>by
  simp only[kM,lK]at h;obtain⟨J,U⟩:=Ef i h;rw[show j+1+x=j+(x+1) by omega]at J U;refine⟨by cases ls<;>simp_all,?_⟩;simp only[kM];exact gQ _ U
def uf(j:Nat):bi->Option aq
 | .one l=>if j=0 then some l else none
 | .agg ls=>ls[j]?
theorem GA.xR{i j:Nat}{a:GA}{p:az}{k:Nat}{es bV:List (List D)}(h:(a.found i p).1.cell j=some (.ed k es (some bV))):
  ∃aN,p=.aN aN/\uf j aN=some (.aa (.own (eh i j)) k bV)/\(eh i j,eh i j)∈(a.found i p).2:=by
 cases a with
 | one c=>
  simp only[GA.found,GA.cell]at h ⊢;split at h
  ·rename_i aU;subst aU;simp only[aH]at h;obtain⟨J,U⟩:=dP.xR h;cases p with
   | fD as=>cases J
   | aN a=>
    cases a with
    | agg ls=>cases J
    | one l=>
     simp only[az.leaf,aH]at J;exact⟨_,rfl,by simp[uf,J],U⟩
  cases h
 | agg cs=>
  have Iv:∀q:List dP×gp,q=kM i 0 cs []->q.1[j]?=some (.ed k es (some bV))->False:=by
   rintro q rfl h;have:=(Ef i h).1;simp at this
  cases p with
  | fD as=>exact (Iv _ rfl h).elim
  | aN a=>
   cases a with
   | one l=>exact (Iv _ rfl h).elim
   | agg ls=>
    simp only[GA.found,GA.cell]at h ⊢;obtain⟨J,U⟩:=Ef i h;rw[cP]at J U;exact⟨_,rfl,by simp[uf,J],U⟩
theorem Ka:∀{as:List GA} {b':List az} {i x j:Nat} {a:GA} {k:Nat} {es bV:List (List D)},(iW i as b').1[x]?=some a->a.cell j=some (.ed k es (some bV))->
  ∃aN,b'[x]?=some (.aN aN)/\uf j aN=some (.aa (.own (eh (i+x) j)) k bV)/\(eh (i+x) j,eh (i+x) j)∈(iW i as b').2
 | [],b',i,x,j,a,k,es,bV,h,_=>by simp[iW]at h
 | b::as,b',i,0,j,a,k,es,bV,h,ai=>by
  simp only[iW,jB,aH]at h;subst h;obtain⟨aN,J,U,ax⟩:=GA.xR ai;refine⟨aN,?_,U,?_⟩
  ·cases b' with
   | nil=>
    simp only[List.headD_nil]at J;cases J;simp only[uf]at U;split at U<;>simp at U
   | cons p b'=>simpa using J
  simp only[iW];exact gl _ ax
 | b::as,b',i,x+1,j,a,k,es,bV,h,ai=>by
  simp only[iW,lK]at h;obtain⟨aN,J,U,ax⟩:=Ka h ai;rw[show i+1+x=i+(x+1) by omega]at U ax;refine⟨aN,by cases b'<;>simp_all,U,?_⟩;simp only[iW];exact gQ _ ax
def oO(P:Program)(st:aG)(hN:List ResultVar)(args:List GA)(hint:List b7):Option (List b7×List GA):=
 match hN.mapM (nJ P st) with
 | some b'=>
  match oP 0 b' hint with
  | some (ds,ts)=>if Hg args&&yY (ts++(iW 0 args st.env).2) then some (ds,(iW 0 args st.env).1) else none
  | none=>none
 | none=>none
theorem Kb{P:Program}{f:FuncId}{fn:Func}{c:Code}{args:List GA}{rs:List b7}{ans bN:List bI}{obs:List Prop}{e:fH}{st:aG}(bn:P.funcs[f]?=some fn)(ah:fn.body=some c)
  (ei:run P c (tF args fn.ntmps) ans=some (e,st,bN,obs)) (aM:cn obs) (he:e=.ret\/e=.normal) (dS:oO P st fn.results.toList args rs=some (rs,args)):je P f args rs:=by
 intro w vs xu j1 nq;unfold oO at dS;split at dS
 ·rename_i b' py;split at dS
  ·rename_i ds ts dM;split at dS
   ·rename_i cb;simp only[aH,a']at dS;obtain⟨rfl,PU⟩:=dS;rw[b0]at cb;obtain⟨dc,cb⟩:=cb;refine calls_of_wp bn ah (Code.wp_mono (fun e' b4 aD hp=>?_) (kW c ei aM _ _ w (Su dc j1 nq fn.ntmps)));obtain⟨rfl,ω,τ,aI⟩:=hp;obtain⟨zs,J,U,ax⟩:=y1 aI py;obtain⟨aJ,a1⟩:=y0 (w:=aD) (ω:=ω) (τ:=τ) (ts:=ts++(iW 0 args st.env).2) (fun t n h=>yZ cb h) dM (fun x ae=>gl _ ae);have hm:=zf (P:=P) _ fn.results aD _ J;have ee:∀(j:Nat) (d:b7),ds[j]?=some d->∃z,zs[j]?=some z/\jP aD (gL ω (ts++(iW 0 args st.env).2)) j d z:=by
     intro j d ay;obtain⟨p,hp,px⟩:=a1 j d ay;obtain⟨z,aL,l7⟩:=ax j p hp;exact⟨z,aL,by have:=px z l7;rwa[cP]at this⟩
    have kI:zs.length=ds.length:=by omega
    have gI:∀v,(if h:zs.toArray.size=1 then zs.toArray[0] else .tuple zs.toArray)=v->j7 aD (gL ω (ts++(iW 0 args st.env).2)) ds v:=by
     intro v a8;unfold j7;split
     ·rename_i bT;obtain⟨z,aL,ai⟩:=ee 0 bT rfl;have J:zs.length=1:=by rw[kI];rfl
      have oh:zs=[z]:=by
       match zs,J,aL with
       | [z0],_,aL=>simp at aL;rw[aL]
      have Cd:v=z:=by
       rw[<-a8];simp[oh]
      rw[Cd];exact ai
     rename_i cl;have J:¬zs.toArray.size=1:=by
      intro h;simp at h;rw[kI]at h;obtain⟨d,ay⟩:=List.length_eq_one_iff.1 h;exact cl d ay
     rw[dif_neg J]at a8;exact⟨zs.toArray,a8.symm,by simpa using kI,fun r bT ar=>by obtain⟨z,aL,ai⟩:=ee r bT ar;exact⟨z,by simpa using aL,ai⟩⟩
    have BP:Kept aD (gL ω (ts++(iW 0 args st.env).2)) args vs:=by
     intro i j dD k es bV jJ ai;have PW:(iW 0 args st.env).1[i]?=some dD:=by rw[PU];exact jJ
     obtain⟨aN,bt,bQ,cZ⟩:=Ka PW ai;rw[cP]at bQ cZ;obtain⟨v,a8,ad⟩:=aI.env i _ bt;have dJ:∃u,Sat aD ω τ (.aa (.own (eh i j)) k bV) u:=by
      cases aN with
      | one l=>
       simp only[uf]at bQ;split at bQ
       ·simp only[aH]at bQ;exact⟨v,bQ▸ad⟩
       cases bQ
      | agg ls=>
       obtain⟨us,_,_,hu⟩:=ad;obtain⟨u,_,dQ⟩:=hu j _ bQ;exact⟨u,dQ⟩
     obtain⟨u,ar,bq⟩:=dJ;have aU:j<100:=by
      cases dD with
      | one c=>simp only[GA.cell]at ai;split at ai<;>first | omega | cases ai
      | agg cs=>
       have J:=eP.1 dc _ (eD jJ);simp only[cF]at J;have:=(eJ.1 ai).1;omega
     have qu:=aI.fixed (eh i j) (by simp[eh]);have PY:=A8 (args:=args) (vs:=vs) aU jJ ai;have:u=cellOf (vs.getD i undef) j:=by
      have dQ:τ (eh i j)=(k,u):=bq;rw[qu]at dQ;have dI:u5 args vs (eh i j)=(k,u):=dQ;rw[PY]at dI;exact (Prod.mk.inj dI).2.symm
     subst this;refine ar.frame fun b q _ aw=>⟨?_,rfl⟩
     simp only[Tag.R]at aw ⊢;have:=yZ cb (gQ ts cZ);simp only[gL,aw,this]
    have c6:∃v,(results fn b4.tmps).run P aD=.ok v aD/\∃u,Ending.returned v=.returned u/\e8 ⟨w,fun b=>xu b≠.bc,fun _=>(0,undef)⟩ aD/\
      ∃aP:Own,(∀b,b<w.heap.size->xu b=.bc->aP b=.bc)/\(∀b,aP b≠.bc->(∃t q,aP b=.tok t q)/\∃arr ty,aD.heap[b]?=some (.cells arr ty (0,0)))/\Kept aD aP args vs/\j7 aD aP ds u:=by
     refine⟨_,?_,_,rfl,⟨aI.below.os,aI.below.tape,aI.below.output,aI.below.size,aI.below.block,aI.below.drawn,aI.below.laid,aI.below.free⟩,gL ω (ts++(iW 0 args st.env).2),fun b ah ag=>?_,fun b ah=>?_,BP,gI _ rfl⟩
     ·rw[Ea,Sem.run_bind,hm];rfl
     ·cases cE:ω b with
      | bc=>simp[gL,cE]
      | box id=>simp[gL,cE]
      | tok t q=>
       rcases (aI.owned b (by simp[cE])).1 with h | h
       ·exact absurd ah (by have h:w.heap.size<=b:=h;omega)
       exact absurd ag h
     cases cE:ω b with
     | bc=>simp[gL,cE]at ah
     | box id=>simp[gL,cE]at ah
     | tok t q=>
      refine⟨?_,(aI.owned b (by simp[cE])).2⟩;simp only[gL,cE]at ah ⊢;cases ii:(ts++(iW 0 args st.env).2).at t with
      | none=>simp[ii]at ah
      | some n=>exact⟨n,q,rfl⟩
    obtain⟨v,bt,bQ⟩:=c6;rcases he with rfl | rfl
    ·exact⟨aI.defers,v,bt,bQ⟩
    exact⟨aI.defers,v,bt,bQ⟩
   cases dS
  cases dS
 cases dS
def C4(P:Program)(c:Code)(ntmps:Nat)(hN:List ResultVar)(args:List GA)(hint:List b7)(ans:List bI):Option (List b7×List GA×List Prop):=
 match run P c (tF args ntmps) ans with
 | some (.ret,st,_,obs)=>(oO P st hN args hint).map fun rs=>(rs.1,rs.2,obs)
 | some (.normal,st,_,obs)=>(oO P st hN args hint).map fun rs=>(rs.1,rs.2,obs)
 | _=>none
theorem je.of{P:Program}{f:FuncId}{fn:Func}{args:List GA}{rs:List b7}(ans:List bI)(obs:List Prop)(bn:P.funcs[f]?=some fn)(ah:fn.body.isSome=true)
  (h:C4 P (kX fn) fn.ntmps fn.results.toList args rs ans=some (rs,args,obs)) (aM:cn obs):je P f args rs:=by
 obtain⟨c,ai⟩:=nY.1 ah;have vq:kX fn=c:=by simp[kX,ai]
 unfold C4 at h;rw[vq]at h;split at h
 ·rename_i st a j5 ar;rw[bF]at h;obtain⟨⟨uB,FT⟩,J,h⟩:=h;simp only[a']at h;obtain⟨rfl,rfl,rfl⟩:=h;exact Kb bn ai ar aM (.inl rfl) J
 ·rename_i st a j5 ar;rw[bF]at h;obtain⟨⟨uB,FT⟩,J,h⟩:=h;simp only[a']at h;obtain⟨rfl,rfl,rfl⟩:=h;exact Kb bn ai ar aM (.inr rfl) J
 cases h
end Go.Sx
namespace Go.Sx
open Go.RowKit
def fK(es:List (List Value)):List (List D):=es.map (·.map .v)
theorem y3(es:List (List Value)):(fK es).length=es.length:=by simp[fK]
variable{es:List (List Value)}
theorem Kc{i j:Nat}{d:D}(h:cq (fK es) i j=some d):∃e v,es[i]?=some e/\e[j]?=some v/\d=.v v:=by
 unfold cq fK at h;rw[dG]at h;cases aK:es[i]? with
 | none=>simp[aK]at h
 | some e=>
  simp only[aK,oU,mB,dG,bF]at h;obtain⟨v,J,rfl⟩:=h;exact⟨e,v,rfl,J,rfl⟩
theorem A6{i j:Nat}{e:List Value}{v:Value}(J:es[i]?=some e)(U:e[j]?=some v):cq (fK es) i j=some (.v v):=by
 simp[cq,fK,J,U]
structure Row (w:World) (b off k cap:Nat) (arr:Array Value) (ty:TypeId) (es:List (List Value)):Prop where
 heap:w.heap[b]?=some (.cells arr ty (0,0))
 room:es.length<=cap
 fit:off+cap*k<=arr.size
 len:∀e∈es,e.length=k
 one:∀e∈es,∀v∈e,v.oneCell'=true
 cell:∀i j e v,es[i]?=some e->e[j]?=some v->arr[off+i*k+j]?=some v
variable{w:World}{k:Nat}{ω:Own}
theorem Row.rep{b off cap:Nat}{arr:Array Value}{ty:TypeId}(h:Row w b off k cap arr ty es){R:List (Nat×Nat)->cx->Prop}(c6:R [] (ω b)):
  bA w ω R (.aa k (fK es)) (.slice (some ⟨b,off,none⟩) es.length cap):=by
 have:=bA.row (w:=w) (ω:=ω) R k (fK es) b off cap arr ty (0,0) (fun i j=>arr.getD (off+i*k+j) undef) h.heap c6 (by rw[y3];exact h.room) h.fit
  (by intro e he;simp only[fK,eC]at he;obtain⟨b8,bX,rfl⟩:=he;simpa using h.len b8 bX)
  (by
   intro i j d ay;obtain⟨e,v,J,U,rfl⟩:=Kc ay;have:=h.cell i j e v J U;simp[dF,this])
  (by
   intro i j d ay;obtain⟨e,v,J,U,rfl⟩:=Kc ay;have ax:=h.cell i j e v J U;have:arr.getD (off+i*k+j) undef=v:=by simp[dF,ax]
   rw[this];exact .v _ _ (h.one e (eD J) v (eD U)))
 rwa[y3]at this
theorem AM.row{w:World}{ω:Own}(ag:AM w ω){t:Nat}{y:Value}(h:bA w ω (Tag.own t).R (.aa k (fK es)) y):
  (es=[]/\∃a,y=.slice a 0 0)\/∃b off cap arr ty,ω b=.tok t []/\y=.slice (some ⟨b,off,none⟩) es.length cap/\Row w b off k cap arr ty es:=by
 generalize ay:D.aa k (fK es)=d at h;cases h with
 | nil R k a=>
  simp only[D.aa.injEq]at ay;exact .inl ⟨by simpa[fK]using ay.2,a,rfl⟩
 | row R k bV b off cap arr ty cj us ah c6 ai ad aT hu dp=>
  simp only[D.aa.injEq]at ay;obtain⟨rfl,rfl⟩:=ay;simp only[Tag.R]at c6;obtain⟨_,bJ,nX,ax⟩:=ag b (by rw[c6];simp);rw[ah]at ax;simp only[aH,Obj.cells.injEq]at ax;obtain⟨rfl,rfl,rfl⟩:=ax;refine .inr ⟨b,off,cap,arr,ty,c6,by rw[y3],ah,by rwa[y3]at ai,ad,fun e he=>?_,fun e he v a8=>?_,fun i j e v J U=>?_⟩
  ·have:=aT (e.map .v) (by simp only[fK,eC];exact⟨e,he,rfl⟩);simpa using this
  ·obtain⟨i,hi⟩:=mA.1 he;obtain⟨j,aU⟩:=mA.1 a8;have:=dp i j (.v v) (A6 hi aU);generalize us i j=u at this;cases this with
   | v _ _ J=>exact J
  have ax:=hu i j (.v v) (A6 J U);have aJ:=dp i j (.v v) (A6 J U);generalize us i j=u at ax aJ;cases aJ with
  | v=>exact ax
 | v=>cases ay
 | ptr=>cases ay
 | da=>cases ay
structure AN (w aD:World) (own:Nat->Prop) (k:Nat) (es:List (List Value)) (v:Value):Prop where
 OM:ru ⟨w,own,fun _=>(0,undef)⟩ aD
 row:(es=[]/\∃a,v=.slice a 0 0)\/∃b off cap arr ty,(own b\/w.heap.size<=b)/\v=.slice (some ⟨b,off,none⟩) es.length cap/\Row aD b off k cap arr ty es
theorem AN.res{aD:World}{v:Value}(h:AN w aD (fun b=>ω b≠.bc) k es v):
  ∃aP:Own,(∀b,b<w.heap.size->ω b=.bc->aP b=.bc)/\(∀b,aP b≠.bc->(∃t q,aP b=.tok t q)/\∃arr ty,aD.heap[b]?=some (.cells arr ty (0,0)))/\j7 aD aP [.one (.aa k (fK es))] v:=by
 rcases h.row with⟨rfl,a,rfl⟩ | ⟨b,off,cap,arr,ty,aM,rfl,ar⟩
 ·exact⟨fun _=>.bc,fun _ _ _=>rfl,fun b ah=>absurd rfl ah,bA.nil _ k a⟩
 refine⟨fun c=>if c=b then .tok 0 [] else .bc,fun c ai he=>?_,fun c ai=>?_,?_⟩
 ·by_cases e:c=b
  ·subst e;rcases aM with aM | aM
   ·exact absurd he aM
   omega
  simp only[aZ e]
 ·by_cases e:c=b
  ·subst e;exact⟨⟨0,[],by simp⟩,arr,ty,ar.heap⟩
  simp only[aZ e]at ai;exact absurd rfl ai
 exact ar.rep (R:=(Tag.own 0).R) (by simp[Tag.R])
def D.FV:D->Value
 | .v x=>x
 | _=>undef
theorem OJ{vs:Array Value}{a b c:Value}(h:vs.size=3)(bX:vs[0]?=some a)(J:vs[1]?=some b)(U:vs[2]?=some c):vs=#[a,b,c]:=by
 apply Array.ext
 ·simpa using h
 intro i hi _;have kD:i<3:=by omega
 match i,kD with
 | 0,_=>simpa[i' hi]using bX
 | 1,_=>simpa[i' hi]using J
 | 2,_=>simpa[i' hi]using U
theorem bA.O3{R:List (Nat×Nat)->cx->Prop}{x y:Value}(h:bA w ω R (.v x) y):y=x:=by
 cases h;rfl
theorem Sv{args:List GA}{vs:Array Value}(h:∀(i j:Nat) (dD:GA) (k:Nat) (es bV:List (List D)),args[i]?=some dD->dD.cell j=some (.ed k es (some bV))->False):Kept w ω args vs:=
 fun i j dD k es bV J U=>(h i j dD k es bV J U).elim
@[simp] theorem setRow_drawn (w : World) (b : Nat) (cs : Array Value) : (w.setRow b cs).drawn = w.drawn := rfl
theorem Sw{own:Nat->Prop}{b:Nat}(ah:own b)(fS AJ:Array Value):ru ⟨w,own,fun _=>(0,undef)⟩ ((w.drew.setRow b fS).setRow b AJ):=by
 refine⟨rfl,rfl,rfl,by simp,fun k aT ag=>?_,?_⟩
 ·have:k≠b:=fun e=>ag (by rw[e];exact ah)
  rw[setRow_other _ b k _ this,setRow_other _ b k _ this];rfl
 intro _;show w.drawn<=w.drawn+1;omega
