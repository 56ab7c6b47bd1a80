import Derived.Test.YtdchjefneblpgaaGreatR15
set_option linter.unusedVariables false
set_option linter.unusedSimpArgs false
namespace Go.Sx
open Go.RowKit
def eT.leaf(t:Nat):eT->aD
 | .ro d=>d.leaf .free
 | .fh k es _=>.J (.own t) k es
def va(i:Nat):Nat->List eT->List aD
 | _,[]=>[]
 | j,c::cs=>c.leaf (fI i j)::va i (j+1) cs
def GA.bd(i:Nat):GA->bS
 | .one c=>.one (c.leaf (fI i 0))
 | .agg cs=>.agg (va i 0 cs)
def uE:Nat->List GA->List aI
 | _,[]=>[]
 | i,a::as=>.bd (a.bd i)::uE (i+1) as
def yW(args:List GA)(ntmps:Nat):aG:=⟨uE 0 args++List.replicate (ntmps-args.length) .cu,[]⟩
def eT.post:eT->aD->eT
 | .fh k es (some _),.J (.own _) cb cB=>if cb=k then .fh k es (some cB) else .fh k es none
 | .fh k es _,_=>.fh k es none
 | c,_=>c
def O3(args:List GA):Bool:=args.all fun | .one _=>true | .agg cs=>decide (cs.length<=100)
def O4(args:List GA)(t:Nat):Nat:=
 match (args[(t-df) / 100]?).bind (GA.cell ((t-df) % 100)) with
 | some (.fh k _ _)=>k
 | _=>0
def AA(args:List GA)(vs:Array Value)(t:Nat):Nat×Value:=(O4 args t,cellOf (vs.getD ((t-df) / 100) undef) ((t-df) % 100))
theorem H4{args:List GA}{vs:Array Value}{i j:Nat}(aP:j<100){eG:GA}(ad:args[i]?=some eG){k:Nat}{es:List (List D)}{post:Option (List (List D))}(af:eG.cell j=some (.fh k es post)):
  AA args vs (fI i j)=(k,cellOf (vs.getD i undef) j):=by
 have e1:(fI i j-df) / 100=i:=by simp only[fI];omega
 have e2:(fI i j-df) % 100=j:=by simp only[fI];omega
 simp only[AA,O4,e1,e2,ad,nZ,af]
theorem SE(i:Nat):∀(cs:List eT) (j x:Nat),(va i j cs)[x]?=(cs[x]?).map fun c=>c.leaf (fI i (j+x))
 | [],j,x=>by simp[va]
 | c::cs,j,0=>by simp[va]
 | c::cs,j,x+1=>by
  simp only[va,oK,SE i cs (j+1) x];rw[show j+1+x=j+(x+1) by omega]
theorem SF(i:Nat):∀(cs:List eT) (j:Nat),(va i j cs).length=cs.length
 | [],_=>rfl
 | c::cs,j=>by simp[va,SF i cs (j+1)]
theorem SG:∀(as:List GA) (i x:Nat),(uE i as)[x]?=(as[x]?).map fun a=>.bd (a.bd (i+x))
 | [],i,x=>by simp[uE]
 | a::as,i,0=>by simp[uE]
 | a::as,i,x+1=>by
  simp only[uE,oK,SG as (i+1) x];rw[show i+1+x=i+(x+1) by omega]
theorem KH:∀(as:List GA) (i:Nat),(uE i as).length=as.length
 | [],_=>rfl
 | a::as,i=>by simp[uE,KH as (i+1)]
theorem v'.sat{w:World}{ω:Own}{τ:Nat->Nat×Value}{t:Nat}{c:eT}{y:Value}(h:v' w ω t c y)(tF:∀k es post,c=.fh k es post->τ t=(k,y)):Sat w ω τ (c.leaf t) y:=by
 cases c with
 | ro d=>exact D.dQ (t:=.free) (p:=(0,0)) h
 | fh k es post=>exact⟨h,tF k es post rfl⟩
theorem aol{w:World}{ω:Own}{args:List GA}{vs:Array Value}(dV:O3 args=true)(h:HB w ω args vs)(o6:Tidy w ω)(ntmps:Nat):
  Rel ⟨w,fun b=>ω b≠.bB,AA args vs⟩ (yW args ntmps) { tmps:=vs++Array.replicate (ntmps-vs.size) undef,defers:=[] } w:=by
 obtain⟨ar,aK,ad⟩:=h;refine⟨ω,AA args vs,rfl,by simp[yW,aK,KH],hn.start o6,fun b ao=>⟨.inr ao,(ar b ao).2⟩,fun _ _=>rfl,(fun id b _ ao=>by
  obtain⟨⟨t,q,e,_⟩,_⟩:=ar b (by rw[ao];simp);rw[ao]at e;cases e),?_,fun id ls aj=>by simp[yW,dE]at aj⟩
 intro i p hp;simp only[yW]at hp;rw[l7,KH]at hp;split at hp
 ·rename_i hi;rw[SG,b2]at hp;obtain⟨eG,jC,rfl⟩:=hp;rw[dq];obtain⟨v,bz,bD⟩:=ad i eG jC;have lV:i<vs.size:=by omega
  refine⟨v,by rw[iq,aZ lV,bz],?_⟩;have PZ:vs.getD i undef=v:=by simp[eu,bz]
  cases eG with
  | one c=>
   refine v'.sat bD fun k es post af=>?_
   have:=H4 (args:=args) (vs:=vs) (i:=i) (j:=0) (by omega) jC (k:=k) (es:=es) (post:=post) (by simp[GA.cell,af]);rw[this,PZ];subst af;have az:bX w ω (Tag.own (fI i 0)).R (.J k es) v:=bD;obtain⟨b,c,rfl⟩:=az.len;rfl
  | agg cs=>
   obtain⟨us,rfl,hlen,o1⟩:=bD;refine⟨us,rfl,by rw[SF];exact hlen,fun j l aj=>?_⟩;rw[SE,b2]at aj;obtain⟨c,af,rfl⟩:=aj;rw[dq];obtain⟨u,hu,bD⟩:=o1 j c af;have aP:j<100:=by
    have h1:=fW.1 dV _ (fE jC);simp only[b']at h1;have:=(ey.1 af).1;omega
   refine⟨u,hu,v'.sat bD fun k es post e=>?_⟩;rw[H4 (args:=args) (vs:=vs) aP jC (k:=k) (es:=es) (post:=post) (by simp only[GA.cell,af,e]),PZ];simp[cellOf,Value.cells,eu,hu]
 rename_i hi;rw[Am]at hp;split at hp
 ·rename_i bu;simp only[aO]at hp;subst hp;refine⟨undef,?_,ae⟩;rw[iq,a6 (by omega),Array.getElem?_replicate,aZ (by omega)]
 cases hp
end Go.Sx
namespace Go.Sx
open Go.RowKit
def eT.found(t:Nat):eT->Option aD->eT×iH
 | .ro d,_=>(.ro d,[])
 | .fh k es (some _),some (.J (.own s) cb cB)=>if s=t/\cb=k then (.fh k es (some cB),[(t,t)]) else (.fh k es none,[])
 | .fh k es _,_=>(.fh k es none,[])
def oB(i:Nat):Nat->List eT->List aD->List eT×iH
 | _,[],_=>([],[])
 | j,c::cs,ls=>((c.found (fI i j) ls.head?).1::(oB i (j+1) cs ls.tail).1,(c.found (fI i j) ls.head?).2++(oB i (j+1) cs ls.tail).2)
def GA.found(i:Nat):GA->aI->GA×iH
 | .one c,p=>(.one (c.found (fI i 0) p.leaf).1,(c.found (fI i 0) p.leaf).2)
 | .agg cs,.bd (.agg ls)=>(.agg (oB i 0 cs ls).1,(oB i 0 cs ls).2)
 | .agg cs,_=>(.agg (oB i 0 cs []).1,(oB i 0 cs []).2)
def l2:Nat->List GA->List aI->List GA×iH
 | _,[],_=>([],[])
 | i,a::as,cx=>((a.found i (cx.headD .cu)).1::(l2 (i+1) as cx.tail).1,(a.found i (cx.headD .cu)).2++(l2 (i+1) as cx.tail).2)
theorem eT.DZ{t:Nat}{c:eT}{l:Option aD}{k:Nat}{es cB:List (List D)}(h:(c.found t l).1=.fh k es (some cB)):l=some (.J (.own t) k cB)/\(t,t)∈(c.found t l).2:=by
 unfold eT.found at h ⊢;split at h
 ·cases h
 ·rename_i dw dP p s cb awl;split at h
  ·rename_i af;obtain⟨rfl,rfl⟩:=af;simp only[eT.fh.injEq,aO]at h;obtain⟨rfl,_,rfl⟩:=h;exact⟨rfl,by simp⟩
  cases h
 cases h
theorem KI(i:Nat):∀{cs:List eT} {ls:List aD} {j x k:Nat} {es cB:List (List D)},(oB i j cs ls).1[x]?=some (.fh k es (some cB))->
  ls[x]?=some (.J (.own (fI i (j+x))) k cB)/\(fI i (j+x),fI i (j+x))∈(oB i j cs ls).2
 | [],ls,j,x,k,es,cB,h=>by simp[oB]at h
 | c::cs,ls,j,0,k,es,cB,h=>by
  simp only[oB,kE,aO]at h;obtain⟨h1,U⟩:=eT.DZ h;refine⟨by cases ls<;>simp_all,?_⟩;simp only[oB];exact hl _ U
 | c::cs,ls,j,x+1,k,es,cB,h=>by
  simp only[oB,oK]at h;obtain⟨h1,U⟩:=KI i h;rw[show j+1+x=j+(x+1) by omega]at h1 U;refine⟨by cases ls<;>simp_all,?_⟩;simp only[oB];exact io _ U
def zE(j:Nat):bS->Option aD
 | .one l=>if j=0 then some l else none
 | .agg ls=>ls[j]?
theorem GA.DZ{i j:Nat}{a:GA}{p:aI}{k:Nat}{es cB:List (List D)}(h:(a.found i p).1.cell j=some (.fh k es (some cB))):
  ∃bd,p=.bd bd/\zE j bd=some (.J (.own (fI i j)) k cB)/\(fI i j,fI i j)∈(a.found i p).2:=by
 cases a with
 | one c=>
  simp only[GA.found,GA.cell]at h ⊢;split at h
  ·rename_i aP;subst aP;simp only[aO]at h;obtain⟨h1,U⟩:=eT.DZ h;cases p with
   | gv as=>cases h1
   | bd a=>
    cases a with
    | agg ls=>cases h1
    | one l=>
     simp only[aI.leaf,aO]at h1;exact⟨_,rfl,by simp[zE,h1],U⟩
  cases h
 | agg cs=>
  have Qj:∀q:List eT×iH,q=oB i 0 cs []->q.1[j]?=some (.fh k es (some cB))->False:=by
   rintro q rfl h;have:=(KI i h).1;simp at this
  cases p with
  | gv as=>exact (Qj _ rfl h).elim
  | bd a=>
   cases a with
   | one l=>exact (Qj _ rfl h).elim
   | agg ls=>
    simp only[GA.found,GA.cell]at h ⊢;obtain⟨h1,U⟩:=KI i h;rw[dq]at h1 U;exact⟨_,rfl,by simp[zE,h1],U⟩
theorem SH:∀{as:List GA} {cx:List aI} {i x j:Nat} {a:GA} {k:Nat} {es cB:List (List D)},(l2 i as cx).1[x]?=some a->a.cell j=some (.fh k es (some cB))->
  ∃bd,cx[x]?=some (.bd bd)/\zE j bd=some (.J (.own (fI (i+x) j)) k cB)/\(fI (i+x) j,fI (i+x) j)∈(l2 i as cx).2
 | [],cx,i,x,j,a,k,es,cB,h,_=>by simp[l2]at h
 | b::as,cx,i,0,j,a,k,es,cB,h,af=>by
  simp only[l2,kE,aO]at h;subst h;obtain⟨bd,h1,U,ax⟩:=GA.DZ af;refine⟨bd,?_,U,?_⟩
  ·cases cx with
   | nil=>
    simp only[List.headD_nil]at h1;cases h1;simp only[zE]at U;split at U<;>simp at U
   | cons p cx=>simpa using h1
  simp only[l2];exact hl _ ax
 | b::as,cx,i,x+1,j,a,k,es,cB,h,af=>by
  simp only[l2,oK]at h;obtain⟨bd,h1,U,ax⟩:=SH h af;rw[show i+1+x=i+(x+1) by omega]at U ax;refine⟨bd,by cases cx<;>simp_all,U,?_⟩;simp only[l2];exact io _ ax
def rG(P:Program)(st:aG)(kC:List ResultVar)(args:List GA)(hint:List cK):Option (List cK×List GA):=
 match kC.mapM (rm P st) with
 | some cx=>
  match sL 0 cx hint with
  | some (ds,ts)=>if O3 args&&FZ (ts++(l2 0 args st.env).2) then some (ds,(l2 0 args st.env).1) else none
  | none=>none
 | none=>none
theorem SI{P:Program}{f:FuncId}{fn:Func}{c:Code}{args:List GA}{rs:List cK}{ans cj:List b6}{obs:List Prop}{e:h'}{st:aG}(bg:P.funcs[f]?=some fn)(ao:fn.body=some c)
  (fj:run P c (yW args fn.ntmps) ans=some (e,st,cj,obs)) (aN:c8 obs) (he:e=.ret\/e=.normal) (fi:rG P st fn.results.toList args rs=some (rs,args)):k' P f args rs:=by
 intro w vs Du nx o6;unfold rG at fi;split at fi
 ·rename_i cx tw;split at fi
  ·rename_i ds ts eI;split at fi
   ·rename_i bD;simp only[aO,bx]at fi;obtain⟨rfl,Zg⟩:=fi;rw[b8]at bD;obtain⟨dV,bD⟩:=bD;refine calls_of_wp bg ao (Code.wp_mono (fun e' cF aJ hp=>?_) (oz c fj aN _ _ w (aol dV nx o6 fn.ntmps)));obtain⟨rfl,ω,τ,aT⟩:=hp;obtain⟨zs,h1,U,ax⟩:=F2 aT tw;obtain⟨aF,aQ⟩:=F1 (w:=aJ) (ω:=ω) (τ:=τ) (ts:=ts++(l2 0 args st.env).2) (fun t n h=>F0 bD h) eI (fun x aa=>hl _ aa);have hm:=EW (P:=P) _ fn.results aJ _ h1;have fa:∀(j:Nat) (d:cK),ds[j]?=some d->∃z,zs[j]?=some z/\mT aJ (jk ω (ts++(l2 0 args st.env).2)) j d z:=by
     intro j d aB;obtain⟨p,hp,tv⟩:=aQ j d aB;obtain⟨z,aW,se⟩:=ax j p hp;exact⟨z,aW,by have:=tv z se;rwa[dq]at this⟩
    have lY:zs.length=ds.length:=by omega
    have hY:∀v,(if h:zs.toArray.size=1 then zs.toArray[0] else .tuple zs.toArray)=v->nL aJ (jk ω (ts++(l2 0 args st.env).2)) ds v:=by
     intro v bz;unfold nL;split
     ·rename_i cn;obtain⟨z,aW,af⟩:=fa 0 cn rfl;have h1:zs.length=1:=by rw[lY];rfl
      have p1:zs=[z]:=by
       match zs,h1,aW with
       | [z0],_,aW=>simp at aW;rw[aW]
      have Be:v=z:=by
       rw[<-bz];simp[p1]
      rw[Be];exact af
     rename_i cf;have h1:¬zs.toArray.size=1:=by
      intro h;simp at h;rw[lY]at h;obtain⟨d,aB⟩:=List.length_eq_one_iff.1 h;exact cf d aB
     rw[dif_neg h1]at bz;exact⟨zs.toArray,bz.symm,by simpa using lY,fun r cn az=>by obtain⟨z,aW,af⟩:=fa r cn az;exact⟨z,by simpa using aW,af⟩⟩
    have IL:Kept aJ (jk ω (ts++(l2 0 args st.env).2)) args vs:=by
     intro i j eG k es cB jC af;have Zi:(l2 0 args st.env).1[i]?=some eG:=by rw[Zg];exact jC
     obtain⟨bd,bb,bN,dj⟩:=SH Zi af;rw[dq]at bN dj;obtain⟨v,bz,ai⟩:=aT.env i _ bb;have eV:∃u,Sat aJ ω τ (.J (.own (fI i j)) k cB) u:=by
      cases bd with
      | one l=>
       simp only[zE]at bN;split at bN
       ·simp only[aO]at bN;exact⟨v,bN▸ai⟩
       cases bN
      | agg ls=>
       obtain⟨us,_,_,hu⟩:=ai;obtain⟨u,_,ej⟩:=hu j _ bN;exact⟨u,ej⟩
     obtain⟨u,az,bC⟩:=eV;have aP:j<100:=by
      cases eG with
      | one c=>simp only[GA.cell]at af;split at af<;>first | omega | cases af
      | agg cs=>
       have h1:=fW.1 dV _ (fE jC);simp only[b']at h1;have:=(ey.1 af).1;omega
     have r6:=aT.fixed (fI i j) (by simp[fI]);have Zk:=H4 (args:=args) (vs:=vs) aP jC af;have:u=cellOf (vs.getD i undef) j:=by
      have ej:τ (fI i j)=(k,u):=bC;rw[r6]at ej;have dU:AA args vs (fI i j)=(k,u):=ej;rw[Zk]at dU;exact (Prod.mk.inj dU).2.symm
     subst this;refine az.frame fun b q _ aA=>⟨?_,rfl⟩
     simp only[Tag.R]at aA ⊢;have:=F0 bD (io ts dj);simp only[jk,aA,this]
    have ed:∃v,(results fn cF.tmps).run P aJ=.ok v aJ/\∃u,Ending.returned v=.returned u/\hn ⟨w,fun b=>Du b≠.bB,fun _=>(0,undef)⟩ aJ/\
      ∃a1:Own,(∀b,b<w.heap.size->Du b=.bB->a1 b=.bB)/\(∀b,a1 b≠.bB->(∃t q,a1 b=.tok t q)/\∃arr ty,aJ.heap[b]?=some (.cells arr ty (0,0)))/\Kept aJ a1 args vs/\nL aJ a1 ds u:=by
     refine⟨_,?_,_,rfl,⟨aT.below.os,aT.below.tape,aT.below.output,aT.below.size,aT.below.block,aT.below.drawn,aT.below.laid,aT.below.free⟩,jk ω (ts++(l2 0 args st.env).2),fun b ao ar=>?_,fun b ao=>?_,IL,hY _ rfl⟩
     ·rw[K9,Sem.run_bind,hm];rfl
     ·cases da:ω b with
      | bB=>simp[jk,da]
      | box id=>simp[jk,da]
      | tok t q=>
       rcases (aT.owned b (by simp[da])).1 with h | h
       ·exact absurd ao (by have h:w.heap.size<=b:=h;omega)
       exact absurd ar h
     cases da:ω b with
     | bB=>simp[jk,da]at ao
     | box id=>simp[jk,da]at ao
     | tok t q=>
      refine⟨?_,(aT.owned b (by simp[da])).2⟩;simp only[jk,da]at ao ⊢;cases lk:(ts++(l2 0 args st.env).2).at t with
      | none=>simp[lk]at ao
      | some n=>exact⟨n,q,rfl⟩
    obtain⟨v,bb,bN⟩:=ed;rcases he with rfl | rfl
    ·exact⟨aT.defers,v,bb,bN⟩
    exact⟨aT.defers,v,bb,bN⟩
   cases fi
  cases fi
 cases fi
def J0(P:Program)(c:Code)(ntmps:Nat)(kC:List ResultVar)(args:List GA)(hint:List cK)(ans:List b6):Option (List cK×List GA×List Prop):=
 match run P c (yW args ntmps) ans with
 | some (.ret,st,_,obs)=>(rG P st kC args hint).map fun rs=>(rs.1,rs.2,obs)
 | some (.normal,st,_,obs)=>(rG P st kC args hint).map fun rs=>(rs.1,rs.2,obs)
 | _=>none
theorem k'.of{P:Program}{f:FuncId}{fn:Func}{args:List GA}{rs:List cK}(ans:List b6)(obs:List Prop)(bg:P.funcs[f]?=some fn)(ao:fn.body.isSome=true)
  (h:J0 P (oA fn) fn.ntmps fn.results.toList args rs ans=some (rs,args,obs)) (aN:c8 obs):k' P f args rs:=by
 obtain⟨c,af⟩:=qo.1 ao;have AV:oA fn=c:=by simp[oA,af]
 unfold J0 at h;rw[AV]at h;split at h
 ·rename_i st a nJ az;rw[b2]at h;obtain⟨⟨Ab,Nr⟩,h1,h⟩:=h;simp only[bx]at h;obtain⟨rfl,rfl,rfl⟩:=h;exact SI bg af az aN (.inl rfl) h1
 ·rename_i st a nJ az;rw[b2]at h;obtain⟨⟨Ab,Nr⟩,h1,h⟩:=h;simp only[bx]at h;obtain⟨rfl,rfl,rfl⟩:=h;exact SI bg af az aN (.inr rfl) h1
 cases h
end Go.Sx
namespace Go.Sx
open Go.RowKit
def gB(es:List (List Value)):List (List D):=es.map (·.map .v)
theorem F6(es:List (List Value)):(gB es).length=es.length:=by simp[gB]
variable{es:List (List Value)}
theorem SJ{i j:Nat}{d:D}(h:c5 (gB es) i j=some d):∃e v,es[i]?=some e/\e[j]?=some v/\d=.v v:=by
 unfold c5 gB at h;rw[dG]at h;cases e1:es[i]? with
 | none=>simp[e1]at h
 | some e=>
  simp only[e1,n0,nZ,dG,b2]at h;obtain⟨v,h1,rfl⟩:=h;exact⟨e,v,rfl,h1,rfl⟩
theorem H2{i j:Nat}{e:List Value}{v:Value}(h1:es[i]?=some e)(U:e[j]?=some v):c5 (gB es) i j=some (.v v):=by
 simp[c5,gB,h1,U]
structure Row (w:World) (b off k cap:Nat) (arr:Array Value) (ty:TypeId) (es:List (List Value)):Prop where
 heap:w.heap[b]?=some (.cells arr ty (0,0))
 room:es.length<=cap
 fit:off+cap*k<=arr.size
 len:∀e∈es,e.length=k
 one:∀e∈es,∀v∈e,v.oneCell'=true
 cell:∀i j e v,es[i]?=some e->e[j]?=some v->arr[off+i*k+j]?=some v
variable{w:World}{k:Nat}{ω:Own}
theorem Row.rep{b off cap:Nat}{arr:Array Value}{ty:TypeId}(h:Row w b off k cap arr ty es){R:List (Nat×Nat)->c0->Prop}(ed:R [] (ω b)):
  bX w ω R (.J k (gB es)) (.slice (some ⟨b,off,none⟩) es.length cap):=by
 have:=bX.row (w:=w) (ω:=ω) R k (gB es) b off cap arr ty (0,0) (fun i j=>arr.getD (off+i*k+j) undef) h.heap ed (by rw[F6];exact h.room) h.fit
  (by intro e he;simp only[gB,jZ]at he;obtain⟨cc,bl,rfl⟩:=he;simpa using h.len cc bl)
  (by
   intro i j d aB;obtain⟨e,v,h1,U,rfl⟩:=SJ aB;have:=h.cell i j e v h1 U;simp[eu,this])
  (by
   intro i j d aB;obtain⟨e,v,h1,U,rfl⟩:=SJ aB;have ax:=h.cell i j e v h1 U;have:arr.getD (off+i*k+j) undef=v:=by simp[eu,ax]
   rw[this];exact .v _ _ (h.one e (fE h1) v (fE U)))
 rwa[F6]at this
theorem HC.row{w:World}{ω:Own}(ar:HC w ω){t:Nat}{y:Value}(h:bX w ω (Tag.own t).R (.J k (gB es)) y):
  (es=[]/\∃a,y=.slice a 0 0)\/∃b off cap arr ty,ω b=.tok t []/\y=.slice (some ⟨b,off,none⟩) es.length cap/\Row w b off k cap arr ty es:=by
 generalize aB:D.J k (gB es)=d at h;cases h with
 | nil R k a=>
  simp only[D.J.injEq]at aB;exact .inl ⟨by simpa[gB]using aB.2,a,rfl⟩
 | row R k cB b off cap arr ty cR us ao ed af ai hk hu d'=>
  simp only[D.J.injEq]at aB;obtain⟨rfl,rfl⟩:=aB;simp only[Tag.R]at ed;obtain⟨_,b5,rI,ax⟩:=ar b (by rw[ed];simp);rw[ao]at ax;simp only[aO,Obj.cells.injEq]at ax;obtain⟨rfl,rfl,rfl⟩:=ax;refine .inr ⟨b,off,cap,arr,ty,ed,by rw[F6],ao,by rwa[F6]at af,ai,fun e he=>?_,fun e he v bz=>?_,fun i j e v h1 U=>?_⟩
  ·have:=hk (e.map .v) (by simp only[gB,jZ];exact⟨e,he,rfl⟩);simpa using this
  ·obtain⟨i,hi⟩:=pJ.1 he;obtain⟨j,aP⟩:=pJ.1 bz;have:=d' i j (.v v) (H2 hi aP);generalize us i j=u at this;cases this with
   | v _ _ h1=>exact h1
  have ax:=hu i j (.v v) (H2 h1 U);have aF:=d' i j (.v v) (H2 h1 U);generalize us i j=u at ax aF;cases aF with
  | v=>exact ax
 | v=>cases aB
 | ptr=>cases aB
 | cl=>cases aB
structure DB (w aJ:World) (own:Nat->Prop) (k:Nat) (es:List (List Value)) (v:Value):Prop where
 ON:v8 ⟨w,own,fun _=>(0,undef)⟩ aJ
 row:(es=[]/\∃a,v=.slice a 0 0)\/∃b off cap arr ty,(own b\/w.heap.size<=b)/\v=.slice (some ⟨b,off,none⟩) es.length cap/\Row aJ b off k cap arr ty es
theorem DB.res{aJ:World}{v:Value}(h:DB w aJ (fun b=>ω b≠.bB) k es v):
  ∃a1:Own,(∀b,b<w.heap.size->ω b=.bB->a1 b=.bB)/\(∀b,a1 b≠.bB->(∃t q,a1 b=.tok t q)/\∃arr ty,aJ.heap[b]?=some (.cells arr ty (0,0)))/\nL aJ a1 [.one (.J k (gB es))] v:=by
 rcases h.row with⟨rfl,a,rfl⟩ | ⟨b,off,cap,arr,ty,aN,rfl,az⟩
 ·exact⟨fun _=>.bB,fun _ _ _=>rfl,fun b ao=>absurd rfl ao,bX.nil _ k a⟩
 refine⟨fun c=>if c=b then .tok 0 [] else .bB,fun c af he=>?_,fun c af=>?_,?_⟩
 ·by_cases e:c=b
  ·subst e;rcases aN with aN | aN
   ·exact absurd he aN
   omega
  simp only[a6 e]
 ·by_cases e:c=b
  ·subst e;exact⟨⟨0,[],by simp⟩,arr,ty,az.heap⟩
  simp only[a6 e]at af;exact absurd rfl af
 exact az.rep (R:=(Tag.own 0).R) (by simp[Tag.R])
def D.Ah:D->Value
 | .v x=>x
 | _=>undef
theorem OL{vs:Array Value}{a b c:Value}(h:vs.size=3)(bl:vs[0]?=some a)(h1:vs[1]?=some b)(U:vs[2]?=some c):vs=#[a,b,c]:=by
 apply Array.ext
 ·simpa using h
 intro i hi _;have lV:i<3:=by omega
 match i,lV with
 | 0,_=>simpa[hS hi]using bl
 | 1,_=>simpa[hS hi]using h1
 | 2,_=>simpa[hS hi]using U
theorem bX.HX{R:List (Nat×Nat)->c0->Prop}{x y:Value}(h:bX w ω R (.v x) y):y=x:=by
 cases h;rfl
theorem SK{args:List GA}{vs:Array Value}(h:∀(i j:Nat) (eG:GA) (k:Nat) (es cB:List (List D)),args[i]?=some eG->eG.cell j=some (.fh k es (some cB))->False):Kept w ω args vs:=
 fun i j eG k es cB h1 U=>(h i j eG k es cB h1 U).elim
@[simp] theorem setRow_drawn (w : World) (b : Nat) (cs : Array Value) : (w.setRow b cs).drawn = w.drawn := rfl
theorem SL{own:Nat->Prop}{b:Nat}(ao:own b)(dO Hz:Array Value):v8 ⟨w,own,fun _=>(0,undef)⟩ ((w.drew.setRow b dO).setRow b Hz):=by
 refine⟨rfl,rfl,rfl,by simp,fun k hk ar=>?_,?_⟩
 ·have:k≠b:=fun e=>ar (by rw[e];exact ao)
  rw[setRow_other _ b k _ this,setRow_other _ b k _ this];rfl
 intro _;show w.drawn<=w.drawn+1;omega
