import Derived.Test.YtdchjefneblpgaaGreatR15
set_option linter.unusedVariables false
set_option linter.unusedSimpArgs false
namespace Go.Sx
open Go.RowKit
def eB.leaf(t:Nat):eB->aH
 | .ro d=>d.leaf .free
 | .eO k es _=>.J (.own t) k es
def vt(i:Nat):Nat->List eB->List aH
 | _,[]=>[]
 | j,c::cs=>c.leaf (fu i j)::vt i (j+1) cs
def GA.aI(i:Nat):GA->bn
 | .one c=>.one (c.leaf (fu i 0))
 | .agg cs=>.agg (vt i 0 cs)
def uH:Nat->List GA->List aL
 | _,[]=>[]
 | i,a::as=>.aI (a.aI i)::uH (i+1) as
def yM(args:List GA)(ntmps:Nat):aJ:=⟨uH 0 args++List.replicate (ntmps-args.length) .cA,[]⟩
def eB.post:eB->aH->eB
 | .eO k es (some _),.J (.own _) cw cv=>if cw=k then .eO k es (some cv) else .eO k es none
 | .eO k es _,_=>.eO k es none
 | c,_=>c
def QT(args:List GA):Bool:=args.all fun | .one _=>true | .agg cs=>decide (cs.length<=100)
def QU(args:List GA)(t:Nat):Nat:=
 match (args[(t-dn) / 100]?).bind (GA.cell ((t-dn) % 100)) with
 | some (.eO k _ _)=>k
 | _=>0
def AG(args:List GA)(vs:Array Value)(t:Nat):Nat×Value:=(QU args t,cellOf (vs.getD ((t-dn) / 100) undef) ((t-dn) % 100))
theorem IB{args:List GA}{vs:Array Value}{i j:Nat}(a1:j<100){eJ:GA}(ak:args[i]?=some eJ){k:Nat}{es:List (List D)}{post:Option (List (List D))}(aj:eJ.cell j=some (.eO k es post)):
  AG args vs (fu i j)=(k,cellOf (vs.getD i undef) j):=by
 have e1:(fu i j-dn) / 100=i:=by simp only[fu];omega
 have e2:(fu i j-dn) % 100=j:=by simp only[fu];omega
 simp only[AG,QU,e1,e2,ak,nX,aj]
theorem UE(i:Nat):∀(cs:List eB) (j x:Nat),(vt i j cs)[x]?=(cs[x]?).map fun c=>c.leaf (fu i (j+x))
 | [],j,x=>by simp[vt]
 | c::cs,j,0=>by simp[vt]
 | c::cs,j,x+1=>by
  simp only[vt,oL,UE i cs (j+1) x];rw[show j+1+x=j+(x+1) by omega]
theorem UF(i:Nat):∀(cs:List eB) (j:Nat),(vt i j cs).length=cs.length
 | [],_=>rfl
 | c::cs,j=>by simp[vt,UF i cs (j+1)]
theorem UG:∀(as:List GA) (i x:Nat),(uH i as)[x]?=(as[x]?).map fun a=>.aI (a.aI (i+x))
 | [],i,x=>by simp[uH]
 | a::as,i,0=>by simp[uH]
 | a::as,i,x+1=>by
  simp only[uH,oL,UG as (i+1) x];rw[show i+1+x=i+(x+1) by omega]
theorem Le:∀(as:List GA) (i:Nat),(uH i as).length=as.length
 | [],_=>rfl
 | a::as,i=>by simp[uH,Le as (i+1)]
theorem wg.sat{w:World}{ω:Own}{τ:Nat->Nat×Value}{t:Nat}{c:eB}{y:Value}(h:wg w ω t c y)(tz:∀k es post,c=.eO k es post->τ t=(k,y)):Sat w ω τ (c.leaf t) y:=by
 cases c with
 | ro d=>exact D.dV (t:=.free) (p:=(0,0)) h
 | eO k es post=>exact⟨h,tz k es post rfl⟩
theorem axg{w:World}{ω:Own}{args:List GA}{vs:Array Value}(dI:QT args=true)(h:HZ w ω args vs)(lC:Tidy w ω)(ntmps:Nat):
  Rel ⟨w,fun b=>ω b≠.bI,AG args vs⟩ (yM args ntmps) { tmps:=vs++Array.replicate (ntmps-vs.size) undef,defers:=[] } w:=by
 obtain⟨ay,aX,ak⟩:=h;refine⟨ω,AG args vs,rfl,by simp[yM,aX,Le],ha.start lC,fun b av=>⟨.inr av,(ay b av).2⟩,fun _ _=>rfl,(fun id b _ av=>by
  obtain⟨⟨t,q,e,_⟩,_⟩:=ay b (by rw[av];simp);rw[av]at e;cases e),?_,fun id ls ap=>by simp[yM,dM]at ap⟩
 intro i p hp;simp only[yM]at hp;rw[l8,Le]at hp;split at hp
 ·rename_i hi;rw[UG,cc]at hp;obtain⟨eJ,fw,rfl⟩:=hp;rw[dF];obtain⟨v,bp,cF⟩:=ak i eJ fw;have lb:i<vs.size:=by omega
  refine⟨v,by rw[hW,bm lb,bp],?_⟩;have RS:vs.getD i undef=v:=by simp[eG,bp]
  cases eJ with
  | one c=>
   refine wg.sat cF fun k es post aj=>?_
   have:=IB (args:=args) (vs:=vs) (i:=i) (j:=0) (by omega) fw (k:=k) (es:=es) (post:=post) (by simp[GA.cell,aj]);rw[this,RS];subst aj;have aA:b0 w ω (Tag.own (fu i 0)).R (.J k es) v:=cF;obtain⟨b,c,rfl⟩:=aA.len;rfl
  | agg cs=>
   obtain⟨us,rfl,hlen,pX⟩:=cF;refine⟨us,rfl,by rw[UF];exact hlen,fun j l ap=>?_⟩;rw[UE,cc]at ap;obtain⟨c,aj,rfl⟩:=ap;rw[dF];obtain⟨u,hu,cF⟩:=pX j c aj;have a1:j<100:=by
    have h1:=gx.1 dI _ (ft fw);simp only[cV]at h1;have:=(ek.1 aj).1;omega
   refine⟨u,hu,wg.sat cF fun k es post e=>?_⟩;rw[IB (args:=args) (vs:=vs) a1 fw (k:=k) (es:=es) (post:=post) (by simp only[GA.cell,aj,e]),RS];simp[cellOf,Value.cells,eG,hu]
 rename_i hi;rw[DB]at hp;split at hp
 ·rename_i bz;simp only[aV]at hp;subst hp;refine⟨undef,?_,aa⟩;rw[hW,bk (by omega),Array.getElem?_replicate,bm (by omega)]
 cases hp
end Go.Sx
namespace Go.Sx
open Go.RowKit
def eB.found(t:Nat):eB->Option aH->eB×iR
 | .ro d,_=>(.ro d,[])
 | .eO k es (some _),some (.J (.own s) cw cv)=>if s=t/\cw=k then (.eO k es (some cv),[(t,t)]) else (.eO k es none,[])
 | .eO k es _,_=>(.eO k es none,[])
def oD(i:Nat):Nat->List eB->List aH->List eB×iR
 | _,[],_=>([],[])
 | j,c::cs,ls=>((c.found (fu i j) ls.head?).1::(oD i (j+1) cs ls.tail).1,(c.found (fu i j) ls.head?).2++(oD i (j+1) cs ls.tail).2)
def GA.found(i:Nat):GA->aL->GA×iR
 | .one c,p=>(.one (c.found (fu i 0) p.leaf).1,(c.found (fu i 0) p.leaf).2)
 | .agg cs,.aI (.agg ls)=>(.agg (oD i 0 cs ls).1,(oD i 0 cs ls).2)
 | .agg cs,_=>(.agg (oD i 0 cs []).1,(oD i 0 cs []).2)
def l1:Nat->List GA->List aL->List GA×iR
 | _,[],_=>([],[])
 | i,a::as,cr=>((a.found i (cr.headD .cA)).1::(l1 (i+1) as cr.tail).1,(a.found i (cr.headD .cA)).2++(l1 (i+1) as cr.tail).2)
theorem eB.D8{t:Nat}{c:eB}{l:Option aH}{k:Nat}{es cv:List (List D)}(h:(c.found t l).1=.eO k es (some cv)):l=some (.J (.own t) k cv)/\(t,t)∈(c.found t l).2:=by
 unfold eB.found at h ⊢;split at h
 ·cases h
 ·rename_i cX dS p s cw aCs;split at h
  ·rename_i aj;obtain⟨rfl,rfl⟩:=aj;simp only[eB.eO.injEq,aV]at h;obtain⟨rfl,_,rfl⟩:=h;exact⟨rfl,by simp⟩
  cases h
 cases h
theorem Lf(i:Nat):∀{cs:List eB} {ls:List aH} {j x k:Nat} {es cv:List (List D)},(oD i j cs ls).1[x]?=some (.eO k es (some cv))->
  ls[x]?=some (.J (.own (fu i (j+x))) k cv)/\(fu i (j+x),fu i (j+x))∈(oD i j cs ls).2
 | [],ls,j,x,k,es,cv,h=>by simp[oD]at h
 | c::cs,ls,j,0,k,es,cv,h=>by
  simp only[oD,kh,aV]at h;obtain⟨h1,U⟩:=eB.D8 h;refine⟨by cases ls<;>simp_all,?_⟩;simp only[oD];exact ij _ U
 | c::cs,ls,j,x+1,k,es,cv,h=>by
  simp only[oD,oL]at h;obtain⟨h1,U⟩:=Lf i h;rw[show j+1+x=j+(x+1) by omega]at h1 U;refine⟨by cases ls<;>simp_all,?_⟩;simp only[oD];exact jU _ U
def zk(j:Nat):bn->Option aH
 | .one l=>if j=0 then some l else none
 | .agg ls=>ls[j]?
theorem GA.D8{i j:Nat}{a:GA}{p:aL}{k:Nat}{es cv:List (List D)}(h:(a.found i p).1.cell j=some (.eO k es (some cv))):
  ∃aI,p=.aI aI/\zk j aI=some (.J (.own (fu i j)) k cv)/\(fu i j,fu i j)∈(a.found i p).2:=by
 cases a with
 | one c=>
  simp only[GA.found,GA.cell]at h ⊢;split at h
  ·rename_i a1;subst a1;simp only[aV]at h;obtain⟨h1,U⟩:=eB.D8 h;cases p with
   | gf as=>cases h1
   | aI a=>
    cases a with
    | agg ls=>cases h1
    | one l=>
     simp only[aL.leaf,aV]at h1;exact⟨_,rfl,by simp[zk,h1],U⟩
  cases h
 | agg cs=>
  have Sc:∀q:List eB×iR,q=oD i 0 cs []->q.1[j]?=some (.eO k es (some cv))->False:=by
   rintro q rfl h;have:=(Lf i h).1;simp at this
  cases p with
  | gf as=>exact (Sc _ rfl h).elim
  | aI a=>
   cases a with
   | one l=>exact (Sc _ rfl h).elim
   | agg ls=>
    simp only[GA.found,GA.cell]at h ⊢;obtain⟨h1,U⟩:=Lf i h;rw[dF]at h1 U;exact⟨_,rfl,by simp[zk,h1],U⟩
theorem UH:∀{as:List GA} {cr:List aL} {i x j:Nat} {a:GA} {k:Nat} {es cv:List (List D)},(l1 i as cr).1[x]?=some a->a.cell j=some (.eO k es (some cv))->
  ∃aI,cr[x]?=some (.aI aI)/\zk j aI=some (.J (.own (fu (i+x) j)) k cv)/\(fu (i+x) j,fu (i+x) j)∈(l1 i as cr).2
 | [],cr,i,x,j,a,k,es,cv,h,_=>by simp[l1]at h
 | b::as,cr,i,0,j,a,k,es,cv,h,aj=>by
  simp only[l1,kh,aV]at h;subst h;obtain⟨aI,h1,U,ax⟩:=GA.D8 aj;refine⟨aI,?_,U,?_⟩
  ·cases cr with
   | nil=>
    simp only[List.headD_nil]at h1;cases h1;simp only[zk]at U;split at U<;>simp at U
   | cons p cr=>simpa using h1
  simp only[l1];exact ij _ ax
 | b::as,cr,i,x+1,j,a,k,es,cv,h,aj=>by
  simp only[l1,oL]at h;obtain⟨aI,h1,U,ax⟩:=UH h aj;rw[show i+1+x=i+(x+1) by omega]at U ax;refine⟨aI,by cases cr<;>simp_all,U,?_⟩;simp only[l1];exact jU _ ax
def pF(P:Program)(st:aJ)(kC:List ResultVar)(args:List GA)(hint:List cQ):Option (List cQ×List GA):=
 match kC.mapM (rB P st) with
 | some cr=>
  match sM 0 cr hint with
  | some (ds,ts)=>if QT args&&F2 (ts++(l1 0 args st.env).2) then some (ds,(l1 0 args st.env).1) else none
  | none=>none
 | none=>none
theorem UI{P:Program}{f:FuncId}{fn:Func}{c:Code}{args:List GA}{rs:List cQ}{ans cq:List cf}{obs:List Prop}{e:hY}{st:aJ}(b2:P.funcs[f]?=some fn)(av:fn.body=some c)
  (fm:run P c (yM args fn.ntmps) ans=some (e,st,cq,obs)) (ba:cL obs) (he:e=.ret\/e=.normal) (fi:pF P st fn.results.toList args rs=some (rs,args)):jo P f args rs:=by
 intro w vs DF nD lC;unfold pF at fi;split at fi
 ·rename_i cr tq;split at fi
  ·rename_i ds ts eR;split at fi
   ·rename_i cF;simp only[aV,bH]at fi;obtain⟨rfl,ab2⟩:=fi;rw[cx]at cF;obtain⟨dI,cF⟩:=cF;refine calls_of_wp b2 av (Code.wp_mono (fun e' cK aO hp=>?_) (oB c fm ba _ _ w (axg dI nD lC fn.ntmps)));obtain⟨rfl,ω,τ,a8⟩:=hp;obtain⟨zs,h1,U,ax⟩:=F5 a8 tq;obtain⟨aF,aZ⟩:=F4 (w:=aO) (ω:=ω) (τ:=τ) (ts:=ts++(l1 0 args st.env).2) (fun t n h=>F3 cF h) eR (fun x ah=>ij _ ah);have hm:=E0 (P:=P) _ fn.results aO _ h1;have fH:∀(j:Nat) (d:cQ),ds[j]?=some d->∃z,zs[j]?=some z/\mR aO (jx ω (ts++(l1 0 args st.env).2)) j d z:=by
     intro j d aG;obtain⟨p,hp,tp⟩:=aZ j d aG;obtain⟨z,bi,sc⟩:=ax j p hp;exact⟨z,bi,by have:=tp z sc;rwa[dF]at this⟩
    have lh:zs.length=ds.length:=by omega
    have iF:∀v,(if h:zs.toArray.size=1 then zs.toArray[0] else .tuple zs.toArray)=v->nQ aO (jx ω (ts++(l1 0 args st.env).2)) ds v:=by
     intro v bp;unfold nQ;split
     ·rename_i cm;obtain⟨z,bi,aj⟩:=fH 0 cm rfl;have h1:zs.length=1:=by rw[lh];rfl
      have p3:zs=[z]:=by
       match zs,h1,bi with
       | [z0],_,bi=>simp at bi;rw[bi]
      have Bp:v=z:=by
       rw[<-bp];simp[p3]
      rw[Bp];exact aj
     rename_i cC;have h1:¬zs.toArray.size=1:=by
      intro h;simp at h;rw[lh]at h;obtain⟨d,aG⟩:=List.length_eq_one_iff.1 h;exact cC d aG
     rw[dif_neg h1]at bp;exact⟨zs.toArray,bp.symm,by simpa using lh,fun r cm aA=>by obtain⟨z,bi,aj⟩:=fH r cm aA;exact⟨z,by simpa using bi,aj⟩⟩
    have Jk:Kept aO (jx ω (ts++(l1 0 args st.env).2)) args vs:=by
     intro i j eJ k es cv fw aj;have ab5:(l1 0 args st.env).1[i]?=some eJ:=by rw[ab2];exact fw
     obtain⟨aI,bB,bS,dv⟩:=UH ab5 aj;rw[dF]at bS dv;obtain⟨v,bp,ao⟩:=a8.env i _ bB;have e3:∃u,Sat aO ω τ (.J (.own (fu i j)) k cv) u:=by
      cases aI with
      | one l=>
       simp only[zk]at bS;split at bS
       ·simp only[aV]at bS;exact⟨v,bS▸ao⟩
       cases bS
      | agg ls=>
       obtain⟨us,_,_,hu⟩:=ao;obtain⟨u,_,eu⟩:=hu j _ bS;exact⟨u,eu⟩
     obtain⟨u,aA,bJ⟩:=e3;have a1:j<100:=by
      cases eJ with
      | one c=>simp only[GA.cell]at aj;split at aj<;>first | omega | cases aj
      | agg cs=>
       have h1:=gx.1 dI _ (ft fw);simp only[cV]at h1;have:=(ek.1 aj).1;omega
     have r6:=a8.fixed (fu i j) (by simp[fu]);have ab7:=IB (args:=args) (vs:=vs) a1 fw aj;have:u=cellOf (vs.getD i undef) j:=by
      have eu:τ (fu i j)=(k,u):=bJ;rw[r6]at eu;have dW:AG args vs (fu i j)=(k,u):=eu;rw[ab7]at dW;exact (Prod.mk.inj dW).2.symm
     subst this;refine aA.frame fun b q _ aK=>⟨?_,rfl⟩
     simp only[Tag.R]at aK ⊢;have:=F3 cF (jU ts dv);simp only[jx,aK,this]
    have ej:∃v,(results fn cK.tmps).run P aO=.ok v aO/\∃u,Ending.returned v=.returned u/\ha ⟨w,fun b=>DF b≠.bI,fun _=>(0,undef)⟩ aO/\
      ∃bc:Own,(∀b,b<w.heap.size->DF b=.bI->bc b=.bI)/\(∀b,bc b≠.bI->(∃t q,bc b=.tok t q)/\∃arr ty,aO.heap[b]?=some (.cells arr ty (0,0)))/\Kept aO bc args vs/\nQ aO bc ds u:=by
     refine⟨_,?_,_,rfl,⟨a8.below.os,a8.below.tape,a8.below.output,a8.below.size,a8.below.block,a8.below.drawn,a8.below.laid,a8.below.free⟩,jx ω (ts++(l1 0 args st.env).2),fun b av ay=>?_,fun b av=>?_,Jk,iF _ rfl⟩
     ·rw[K',Sem.run_bind,hm];rfl
     ·cases da:ω b with
      | bI=>simp[jx,da]
      | box id=>simp[jx,da]
      | tok t q=>
       rcases (a8.owned b (by simp[da])).1 with h | h
       ·exact absurd av (by have h:w.heap.size<=b:=h;omega)
       exact absurd ay h
     cases da:ω b with
     | bI=>simp[jx,da]at av
     | box id=>simp[jx,da]at av
     | tok t q=>
      refine⟨?_,(a8.owned b (by simp[da])).2⟩;simp only[jx,da]at av ⊢;cases lg:(ts++(l1 0 args st.env).2).at t with
      | none=>simp[lg]at av
      | some n=>exact⟨n,q,rfl⟩
    obtain⟨v,bB,bS⟩:=ej;rcases he with rfl | rfl
    ·exact⟨a8.defers,v,bB,bS⟩
    exact⟨a8.defers,v,bB,bS⟩
   cases fi
  cases fi
 cases fi
def Ky(P:Program)(c:Code)(ntmps:Nat)(kC:List ResultVar)(args:List GA)(hint:List cQ)(ans:List cf):Option (List cQ×List GA×List Prop):=
 match run P c (yM args ntmps) ans with
 | some (.ret,st,_,obs)=>(pF P st kC args hint).map fun rs=>(rs.1,rs.2,obs)
 | some (.normal,st,_,obs)=>(pF P st kC args hint).map fun rs=>(rs.1,rs.2,obs)
 | _=>none
theorem jo.of{P:Program}{f:FuncId}{fn:Func}{args:List GA}{rs:List cQ}(ans:List cf)(obs:List Prop)(b2:P.funcs[f]?=some fn)(av:fn.body.isSome=true)
  (h:Ky P (oC fn) fn.ntmps fn.results.toList args rs ans=some (rs,args,obs)) (ba:cL obs):jo P f args rs:=by
 obtain⟨c,aj⟩:=qt.1 av;have AZ:oC fn=c:=by simp[oC,aj]
 unfold Ky at h;rw[AZ]at h;split at h
 ·rename_i st a nO aA;rw[cc]at h;obtain⟨⟨z6,OZ⟩,h1,h⟩:=h;simp only[bH]at h;obtain⟨rfl,rfl,rfl⟩:=h;exact UI b2 aj aA ba (.inl rfl) h1
 ·rename_i st a nO aA;rw[cc]at h;obtain⟨⟨z6,OZ⟩,h1,h⟩:=h;simp only[bH]at h;obtain⟨rfl,rfl,rfl⟩:=h;exact UI b2 aj aA ba (.inr rfl) h1
 cases h
end Go.Sx
namespace Go.Sx
open Go.RowKit
def fY(es:List (List Value)):List (List D):=es.map (·.map .v)
theorem F9(es:List (List Value)):(fY es).length=es.length:=by simp[fY]
variable{es:List (List Value)}
theorem UJ{i j:Nat}{d:D}(h:df (fY es) i j=some d):∃e v,es[i]?=some e/\e[j]?=some v/\d=.v v:=by
 unfold df fY at h;rw[dq]at h;cases e1:es[i]? with
 | none=>simp[e1]at h
 | some e=>
  simp only[e1,mz,nX,dq,cc]at h;obtain⟨v,h1,rfl⟩:=h;exact⟨e,v,rfl,h1,rfl⟩
theorem Iz{i j:Nat}{e:List Value}{v:Value}(h1:es[i]?=some e)(U:e[j]?=some v):df (fY es) i j=some (.v v):=by
 simp[df,fY,h1,U]
structure Row (w:World) (b off k cap:Nat) (arr:Array Value) (ty:TypeId) (es:List (List Value)):Prop where
 heap:w.heap[b]?=some (.cells arr ty (0,0))
 room:es.length<=cap
 fit:off+cap*k<=arr.size
 len:∀e∈es,e.length=k
 one:∀e∈es,∀v∈e,v.oneCell'=true
 cell:∀i j e v,es[i]?=some e->e[j]?=some v->arr[off+i*k+j]?=some v
variable{w:World}{k:Nat}
theorem Row.rep{b off cap:Nat}{arr:Array Value}{ty:TypeId}(h:Row w b off k cap arr ty es){ω:Own}{R:List (Nat×Nat)->db->Prop}(ej:R [] (ω b)):
  b0 w ω R (.J k (fY es)) (.slice (some ⟨b,off,none⟩) es.length cap):=by
 have:=b0.row (w:=w) (ω:=ω) R k (fY es) b off cap arr ty (0,0) (fun i j=>arr.getD (off+i*k+j) undef) h.heap ej (by rw[F9];exact h.room) h.fit
  (by intro e he;simp only[fY,lo]at he;obtain⟨bu,bG,rfl⟩:=he;simpa using h.len bu bG)
  (by
   intro i j d aG;obtain⟨e,v,h1,U,rfl⟩:=UJ aG;have:=h.cell i j e v h1 U;simp[eG,this])
  (by
   intro i j d aG;obtain⟨e,v,h1,U,rfl⟩:=UJ aG;have ax:=h.cell i j e v h1 U;have:arr.getD (off+i*k+j) undef=v:=by simp[eG,ax]
   rw[this];exact .v _ _ (h.one e (ft h1) v (ft U)))
 rwa[F9]at this
theorem H0.row{w:World}{ω:Own}(ay:H0 w ω){t:Nat}{y:Value}(h:b0 w ω (Tag.own t).R (.J k (fY es)) y):
  (es=[]/\∃a,y=.slice a 0 0)\/∃b off cap arr ty,ω b=.tok t []/\y=.slice (some ⟨b,off,none⟩) es.length cap/\Row w b off k cap arr ty es:=by
 generalize aG:D.J k (fY es)=d at h;cases h with
 | nil R k a=>
  simp only[D.J.injEq]at aG;exact .inl ⟨by simpa[fY]using aG.2,a,rfl⟩
 | row R k cv b off cap arr ty c3 us av ej aj ao hk hu ed=>
  simp only[D.J.injEq]at aG;obtain⟨rfl,rfl⟩:=aG;simp only[Tag.R]at ej;obtain⟨_,cd,rK,ax⟩:=ay b (by rw[ej];simp);rw[av]at ax;simp only[aV,Obj.cells.injEq]at ax;obtain⟨rfl,rfl,rfl⟩:=ax;refine .inr ⟨b,off,cap,arr,ty,ej,by rw[F9],av,by rwa[F9]at aj,ao,fun e he=>?_,fun e he v bp=>?_,fun i j e v h1 U=>?_⟩
  ·have:=hk (e.map .v) (by simp only[fY,lo];exact⟨e,he,rfl⟩);simpa using this
  ·obtain⟨i,hi⟩:=nj.1 he;obtain⟨j,a1⟩:=nj.1 bp;have:=ed i j (.v v) (Iz hi a1);generalize us i j=u at this;cases this with
   | v _ _ h1=>exact h1
  have ax:=hu i j (.v v) (Iz h1 U);have aF:=ed i j (.v v) (Iz h1 U);generalize us i j=u at ax aF;cases aF with
  | v=>exact ax
 | v=>cases aG
 | ptr=>cases aG
 | cl=>cases aG
structure As (w aO:World) (own:Nat->Prop) (k:Nat) (es:List (List Value)) (v:Value):Prop where
 Ii:rQ ⟨w,own,fun _=>(0,undef)⟩ aO
 row:(es=[]/\∃a,v=.slice a 0 0)\/∃b off cap arr ty,(own b\/w.heap.size<=b)/\v=.slice (some ⟨b,off,none⟩) es.length cap/\Row aO b off k cap arr ty es
variable{ω:Own}
theorem As.res{aO:World}{v:Value}(h:As w aO (fun b=>ω b≠.bI) k es v):
  ∃bc:Own,(∀b,b<w.heap.size->ω b=.bI->bc b=.bI)/\(∀b,bc b≠.bI->(∃t q,bc b=.tok t q)/\∃arr ty,aO.heap[b]?=some (.cells arr ty (0,0)))/\nQ aO bc [.one (.J k (fY es))] v:=by
 rcases h.row with⟨rfl,a,rfl⟩ | ⟨b,off,cap,arr,ty,ba,rfl,aA⟩
 ·exact⟨fun _=>.bI,fun _ _ _=>rfl,fun b av=>absurd rfl av,b0.nil _ k a⟩
 refine⟨fun c=>if c=b then .tok 0 [] else .bI,fun c aj he=>?_,fun c aj=>?_,?_⟩
 ·by_cases e:c=b
  ·subst e;rcases ba with ba | ba
   ·exact absurd he ba
   omega
  simp only[bk e]
 ·by_cases e:c=b
  ·subst e;exact⟨⟨0,[],by simp⟩,arr,ty,aA.heap⟩
  simp only[bk e]at aj;exact absurd rfl aj
 exact aA.rep (R:=(Tag.own 0).R) (by simp[Tag.R])
def D.um:D->Value
 | .v x=>x
 | _=>undef
variable{vs:Array Value}
theorem aaY{a b:Value}(h:vs.size=2)(bG:vs[0]?=some a)(h1:vs[1]?=some b):vs=#[a,b]:=by
 apply Array.ext
 ·simpa using h
 intro i hi _;have lb:i<2:=by omega
 match i,lb with
 | 0,_=>simpa[ht hi]using bG
 | 1,_=>simpa[ht hi]using h1
theorem H7{a b c:Value}(h:vs.size=3)(bG:vs[0]?=some a)(h1:vs[1]?=some b)(U:vs[2]?=some c):vs=#[a,b,c]:=by
 apply Array.ext
 ·simpa using h
 intro i hi _;have lb:i<3:=by omega
 match i,lb with
 | 0,_=>simpa[ht hi]using bG
 | 1,_=>simpa[ht hi]using h1
 | 2,_=>simpa[ht hi]using U
theorem b0.ym{R:List (Nat×Nat)->db->Prop}{x y:Value}(h:b0 w ω R (.v x) y):y=x:=by
 cases h;rfl
theorem MJ{args:List GA}(h:∀(i j:Nat) (eJ:GA) (k:Nat) (es cv:List (List D)),args[i]?=some eJ->eJ.cell j=some (.eO k es (some cv))->False):Kept w ω args vs:=
 fun i j eJ k es cv h1 U=>(h i j eJ k es cv h1 U).elim
@[simp] theorem setRow_drawn (w : World) (b : Nat) (cs : Array Value) : (w.setRow b cs).drawn = w.drawn := rfl
theorem MK{own:Nat->Prop}{b:Nat}(av:own b)(dr HX:Array Value):rQ ⟨w,own,fun _=>(0,undef)⟩ ((w.drew.setRow b dr).setRow b HX):=by
 refine⟨rfl,rfl,rfl,by simp,fun k hk ay=>?_,?_⟩
 ·have:k≠b:=fun e=>ay (by rw[e];exact av)
  rw[setRow_other _ b k _ this,setRow_other _ b k _ this];rfl
 intro _;show w.drawn<=w.drawn+1;omega
