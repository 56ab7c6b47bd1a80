import Derived.Test.YtdchjefneblpgaaGreatR15
set_option linter.unusedVariables false
set_option linter.unusedSimpArgs false
namespace Go.Sx
open Go.RowKit
def eK.leaf(t:Nat):eK->aB
 | .ro d=>d.leaf .free
 | .e9 k es _=>.J (.own t) k es
def tz(i:Nat):Nat->List eK->List aB
 | _,[]=>[]
 | j,c::cs=>c.leaf (ff i j)::tz i (j+1) cs
def GA.aK(i:Nat):GA->bu
 | .one c=>.one (c.leaf (ff i 0))
 | .agg cs=>.agg (tz i 0 cs)
def sK:Nat->List GA->List aJ
 | _,[]=>[]
 | i,a::as=>.aK (a.aK i)::sK (i+1) as
def wP(args:List GA)(ntmps:Nat):aI:=⟨sK 0 args++List.replicate (ntmps-args.length) .cq,[]⟩
def eK.post:eK->aB->eK
 | .e9 k es (some _),.J (.own _) cp cr=>if cp=k then .e9 k es (some cr) else .e9 k es none
 | .e9 k es _,_=>.e9 k es none
 | c,_=>c
def M5(args:List GA):Bool:=args.all fun | .one _=>true | .agg cs=>decide (cs.length<=100)
def M6(args:List GA)(t:Nat):Nat:=
 match (args[(t-c7) / 100]?).bind (GA.cell ((t-c7) % 100)) with
 | some (.e9 k _ _)=>k
 | _=>0
def yj(args:List GA)(vs:Array Value)(t:Nat):Nat×Value:=(M6 args t,cellOf (vs.getD ((t-c7) / 100) undef) ((t-c7) % 100))
theorem FH{args:List GA}{vs:Array Value}{i j:Nat}(a6:j<100){et:GA}(ah:args[i]?=some et){k:Nat}{es:List (List D)}{post:Option (List (List D))}(ai:et.cell j=some (.e9 k es post)):
  yj args vs (ff i j)=(k,cellOf (vs.getD i undef) j):=by
 have e1:(ff i j-c7) / 100=i:=by simp only[ff];omega
 have e2:(ff i j-c7) % 100=j:=by simp only[ff];omega
 simp only[yj,M6,e1,e2,ah,l9,ai]
theorem PZ(i:Nat):∀(cs:List eK) (j x:Nat),(tz i j cs)[x]?=(cs[x]?).map fun c=>c.leaf (ff i (j+x))
 | [],j,x=>by simp[tz]
 | c::cs,j,0=>by simp[tz]
 | c::cs,j,x+1=>by
  simp only[tz,mR,PZ i cs (j+1) x];rw[show j+1+x=j+(x+1) by omega]
theorem P0(i:Nat):∀(cs:List eK) (j:Nat),(tz i j cs).length=cs.length
 | [],_=>rfl
 | c::cs,j=>by simp[tz,P0 i cs (j+1)]
theorem P1:∀(as:List GA) (i x:Nat),(sK i as)[x]?=(as[x]?).map fun a=>.aK (a.aK (i+x))
 | [],i,x=>by simp[sK]
 | a::as,i,0=>by simp[sK]
 | a::as,i,x+1=>by
  simp only[sK,mR,P1 as (i+1) x];rw[show i+1+x=i+(x+1) by omega]
theorem I7:∀(as:List GA) (i:Nat),(sK i as).length=as.length
 | [],_=>rfl
 | a::as,i=>by simp[sK,I7 as (i+1)]
theorem uh.sat{w:World}{ω:Own}{τ:Nat->Nat×Value}{t:Nat}{c:eK}{y:Value}(h:uh w ω t c y)(rN:∀k es post,c=.e9 k es post->τ t=(k,y)):Sat w ω τ (c.leaf t) y:=by
 cases c with
 | ro d=>exact D.dB (t:=.free) (p:=(0,0)) h
 | e9 k es post=>exact⟨h,rN k es post rfl⟩
theorem akS{w:World}{ω:Own}{args:List GA}{vs:Array Value}(dO:M5 args=true)(h:Ff w ω args vs)(pz:Tidy w ω)(ntmps:Nat):
  Rel ⟨w,fun b=>ω b≠.bB,yj args vs⟩ (wP args ntmps) { tmps:=vs++Array.replicate (ntmps-vs.size) undef,defers:=[] } w:=by
 obtain⟨au,aW,ah⟩:=h;refine⟨ω,yj args vs,rfl,by simp[wP,aW,I7],gj.start pz,fun b ar=>⟨.inr ar,(au b ar).2⟩,fun _ _=>rfl,(fun id b _ ar=>by
  obtain⟨⟨t,q,e,_⟩,_⟩:=au b (by rw[ar];simp);rw[ar]at e;cases e),?_,fun id ls al=>by simp[wP,dp]at al⟩
 intro i p hp;simp only[wP]at hp;rw[kD,I7]at hp;split at hp
 ·rename_i hi;rw[P1,b1]at hp;obtain⟨et,lb,rfl⟩:=hp;rw[dg];obtain⟨v,bt,cJ⟩:=ah i et lb;have ks:i<vs.size:=by omega
  refine⟨v,by rw[ht,br ks,bt],?_⟩;have N1:vs.getD i undef=v:=by simp[d',bt]
  cases et with
  | one c=>
   refine uh.sat cJ fun k es post ai=>?_
   have:=FH (args:=args) (vs:=vs) (i:=i) (j:=0) (by omega) lb (k:=k) (es:=es) (post:=post) (by simp[GA.cell,ai]);rw[this,N1];subst ai;have aA:bV w ω (Tag.own (ff i 0)).R (.J k es) v:=cJ;obtain⟨b,c,rfl⟩:=aA.len;rfl
  | agg cs=>
   obtain⟨us,rfl,hlen,oi⟩:=cJ;refine⟨us,rfl,by rw[P0];exact hlen,fun j l al=>?_⟩;rw[PZ,b1]at al;obtain⟨c,ai,rfl⟩:=al;rw[dg];obtain⟨u,hu,cJ⟩:=oi j c ai;have a6:j<100:=by
    have h1:=fA.1 dO _ (fl lb);simp only[cU]at h1;have:=(eh.1 ai).1;omega
   refine⟨u,hu,uh.sat cJ fun k es post e=>?_⟩;rw[FH (args:=args) (vs:=vs) a6 lb (k:=k) (es:=es) (post:=post) (by simp only[GA.cell,ai,e]),N1];simp[cellOf,Value.cells,d',hu]
 rename_i hi;rw[Br]at hp;split at hp
 ·rename_i bz;simp only[aR]at hp;subst hp;refine⟨undef,?_,aa⟩;rw[ht,bh (by omega),Array.getElem?_replicate,br (by omega)]
 cases hp
end Go.Sx
namespace Go.Sx
open Go.RowKit
def eK.found(t:Nat):eK->Option aB->eK×hJ
 | .ro d,_=>(.ro d,[])
 | .e9 k es (some _),some (.J (.own s) cp cr)=>if s=t/\cp=k then (.e9 k es (some cr),[(t,t)]) else (.e9 k es none,[])
 | .e9 k es _,_=>(.e9 k es none,[])
def mJ(i:Nat):Nat->List eK->List aB->List eK×hJ
 | _,[],_=>([],[])
 | j,c::cs,ls=>((c.found (ff i j) ls.head?).1::(mJ i (j+1) cs ls.tail).1,(c.found (ff i j) ls.head?).2++(mJ i (j+1) cs ls.tail).2)
def GA.found(i:Nat):GA->aJ->GA×hJ
 | .one c,p=>(.one (c.found (ff i 0) p.leaf).1,(c.found (ff i 0) p.leaf).2)
 | .agg cs,.aK (.agg ls)=>(.agg (mJ i 0 cs ls).1,(mJ i 0 cs ls).2)
 | .agg cs,_=>(.agg (mJ i 0 cs []).1,(mJ i 0 cs []).2)
def kC:Nat->List GA->List aJ->List GA×hJ
 | _,[],_=>([],[])
 | i,a::as,ct=>((a.found i (ct.headD .cq)).1::(kC (i+1) as ct.tail).1,(a.found i (ct.headD .cq)).2++(kC (i+1) as ct.tail).2)
theorem eK.B2{t:Nat}{c:eK}{l:Option aB}{k:Nat}{es cr:List (List D)}(h:(c.found t l).1=.e9 k es (some cr)):l=some (.J (.own t) k cr)/\(t,t)∈(c.found t l).2:=by
 unfold eK.found at h ⊢;split at h
 ·cases h
 ·rename_i da dE p s cp atQ;split at h
  ·rename_i ai;obtain⟨rfl,rfl⟩:=ai;simp only[eK.e9.injEq,aR]at h;obtain⟨rfl,_,rfl⟩:=h;exact⟨rfl,by simp⟩
  cases h
 cases h
theorem I8(i:Nat):∀{cs:List eK} {ls:List aB} {j x k:Nat} {es cr:List (List D)},(mJ i j cs ls).1[x]?=some (.e9 k es (some cr))->
  ls[x]?=some (.J (.own (ff i (j+x))) k cr)/\(ff i (j+x),ff i (j+x))∈(mJ i j cs ls).2
 | [],ls,j,x,k,es,cr,h=>by simp[mJ]at h
 | c::cs,ls,j,0,k,es,cr,h=>by
  simp only[mJ,jS,aR]at h;obtain⟨h1,U⟩:=eK.B2 h;refine⟨by cases ls<;>simp_all,?_⟩;simp only[mJ];exact hY _ U
 | c::cs,ls,j,x+1,k,es,cr,h=>by
  simp only[mJ,mR]at h;obtain⟨h1,U⟩:=I8 i h;rw[show j+1+x=j+(x+1) by omega]at h1 U;refine⟨by cases ls<;>simp_all,?_⟩;simp only[mJ];exact iD _ U
def xr(j:Nat):bu->Option aB
 | .one l=>if j=0 then some l else none
 | .agg ls=>ls[j]?
theorem GA.B2{i j:Nat}{a:GA}{p:aJ}{k:Nat}{es cr:List (List D)}(h:(a.found i p).1.cell j=some (.e9 k es (some cr))):
  ∃aK,p=.aK aK/\xr j aK=some (.J (.own (ff i j)) k cr)/\(ff i j,ff i j)∈(a.found i p).2:=by
 cases a with
 | one c=>
  simp only[GA.found,GA.cell]at h ⊢;split at h
  ·rename_i a6;subst a6;simp only[aR]at h;obtain⟨h1,U⟩:=eK.B2 h;cases p with
   | fJ as=>cases h1
   | aK a=>
    cases a with
    | agg ls=>cases h1
    | one l=>
     simp only[aJ.leaf,aR]at h1;exact⟨_,rfl,by simp[xr,h1],U⟩
  cases h
 | agg cs=>
  have Oo:∀q:List eK×hJ,q=mJ i 0 cs []->q.1[j]?=some (.e9 k es (some cr))->False:=by
   rintro q rfl h;have:=(I8 i h).1;simp at this
  cases p with
  | fJ as=>exact (Oo _ rfl h).elim
  | aK a=>
   cases a with
   | one l=>exact (Oo _ rfl h).elim
   | agg ls=>
    simp only[GA.found,GA.cell]at h ⊢;obtain⟨h1,U⟩:=I8 i h;rw[dg]at h1 U;exact⟨_,rfl,by simp[xr,h1],U⟩
theorem P2:∀{as:List GA} {ct:List aJ} {i x j:Nat} {a:GA} {k:Nat} {es cr:List (List D)},(kC i as ct).1[x]?=some a->a.cell j=some (.e9 k es (some cr))->
  ∃aK,ct[x]?=some (.aK aK)/\xr j aK=some (.J (.own (ff (i+x) j)) k cr)/\(ff (i+x) j,ff (i+x) j)∈(kC i as ct).2
 | [],ct,i,x,j,a,k,es,cr,h,_=>by simp[kC]at h
 | b::as,ct,i,0,j,a,k,es,cr,h,ai=>by
  simp only[kC,jS,aR]at h;subst h;obtain⟨aK,h1,U,aw⟩:=GA.B2 ai;refine⟨aK,?_,U,?_⟩
  ·cases ct with
   | nil=>
    simp only[List.headD_nil]at h1;cases h1;simp only[xr]at U;split at U<;>simp at U
   | cons p ct=>simpa using h1
  simp only[kC];exact hY _ aw
 | b::as,ct,i,x+1,j,a,k,es,cr,h,ai=>by
  simp only[kC,mR]at h;obtain⟨aK,h1,U,aw⟩:=P2 h ai;rw[show i+1+x=i+(x+1) by omega]at U aw;refine⟨aK,by cases ct<;>simp_all,U,?_⟩;simp only[kC];exact iD _ aw
def qV(P:Program)(st:aI)(jq:List ResultVar)(args:List GA)(hint:List cF):Option (List cF×List GA):=
 match jq.mapM (pR P st) with
 | some ct=>
  match qW 0 ct hint with
  | some (ds,ts)=>if M5 args&&C1 (ts++(kC 0 args st.env).2) then some (ds,(kC 0 args st.env).1) else none
  | none=>none
 | none=>none
theorem P3{P:Program}{f:FuncId}{fn:Func}{c:Code}{args:List GA}{rs:List cF}{ans cd:List b9}{obs:List Prop}{e:hl}{st:aI}(bT:P.funcs[f]?=some fn)(ar:fn.body=some c)
  (eQ:run P c (wP args fn.ntmps) ans=some (e,st,cd,obs)) (aZ:cG obs) (he:e=.ret\/e=.normal) (eP:qV P st fn.results.toList args rs=some (rs,args)):kI P f args rs:=by
 intro w vs Bw lM pz;unfold qV at eP;split at eP
 ·rename_i ct rD;split at eP
  ·rename_i ds ts ek;split at eP
   ·rename_i cJ;simp only[aR,bx]at eP;obtain⟨rfl,Xa⟩:=eP;rw[cx]at cJ;obtain⟨dO,cJ⟩:=cJ;refine calls_of_wp bT ar (Code.wp_mono (fun e' cz aN hp=>?_) (mH c eQ aZ _ _ w (akS dO lM pz fn.ntmps)));obtain⟨rfl,ω,τ,aV⟩:=hp;obtain⟨zs,h1,U,aw⟩:=C4 aV rD;obtain⟨aH,aU⟩:=C3 (w:=aN) (ω:=ω) (τ:=τ) (ts:=ts++(kC 0 args st.env).2) (fun t n h=>C2 cJ h) ek (fun x ag=>hY _ ag);have hm:=CE (P:=P) _ fn.results aN _ h1;have e3:∀(j:Nat) (d:cF),ds[j]?=some d->∃z,zs[j]?=some z/\lo aN (ib ω (ts++(kC 0 args st.env).2)) j d z:=by
     intro j d aD;obtain⟨p,hp,rC⟩:=aU j d aD;obtain⟨z,bf,qo⟩:=aw j p hp;exact⟨z,bf,by have:=rC z qo;rwa[dg]at this⟩
    have lj:zs.length=ds.length:=by omega
    have hA:∀v,(if h:zs.toArray.size=1 then zs.toArray[0] else .tuple zs.toArray)=v->l3 aN (ib ω (ts++(kC 0 args st.env).2)) ds v:=by
     intro v bt;unfold l3;split
     ·rename_i ck;obtain⟨z,bf,ai⟩:=e3 0 ck rfl;have h1:zs.length=1:=by rw[lj];rfl
      have ot:zs=[z]:=by
       match zs,h1,bf with
       | [z0],_,bf=>simp at bf;rw[bf]
      have y4:v=z:=by
       rw[<-bt];simp[ot]
      rw[y4];exact ai
     rename_i cB;have h1:¬zs.toArray.size=1:=by
      intro h;simp at h;rw[lj]at h;obtain⟨d,aD⟩:=List.length_eq_one_iff.1 h;exact cB d aD
     rw[dif_neg h1]at bt;exact⟨zs.toArray,bt.symm,by simpa using lj,fun r ck aA=>by obtain⟨z,bf,ai⟩:=e3 r ck aA;exact⟨z,by simpa using bf,ai⟩⟩
    have Gn:Kept aN (ib ω (ts++(kC 0 args st.env).2)) args vs:=by
     intro i j et k es cr lb ai;have Xd:(kC 0 args st.env).1[i]?=some et:=by rw[Xa];exact lb
     obtain⟨aK,bA,bP,c'⟩:=P2 Xd ai;rw[dg]at bP c';obtain⟨v,bt,aj⟩:=aV.env i _ bA;have ey:∃u,Sat aN ω τ (.J (.own (ff i j)) k cr) u:=by
      cases aK with
      | one l=>
       simp only[xr]at bP;split at bP
       ·simp only[aR]at bP;exact⟨v,bP▸aj⟩
       cases bP
      | agg ls=>
       obtain⟨us,_,_,hu⟩:=aj;obtain⟨u,_,dS⟩:=hu j _ bP;exact⟨u,dS⟩
     obtain⟨u,aA,bJ⟩:=ey;have a6:j<100:=by
      cases et with
      | one c=>simp only[GA.cell]at ai;split at ai<;>first | omega | cases ai
      | agg cs=>
       have h1:=fA.1 dO _ (fl lb);simp only[cU]at h1;have:=(eh.1 ai).1;omega
     have qj:=aV.fixed (ff i j) (by simp[ff]);have Xf:=FH (args:=args) (vs:=vs) a6 lb ai;have:u=cellOf (vs.getD i undef) j:=by
      have dS:τ (ff i j)=(k,u):=bJ;rw[qj]at dS;have dF:yj args vs (ff i j)=(k,u):=dS;rw[Xf]at dF;exact (Prod.mk.inj dF).2.symm
     subst this;refine aA.frame fun b q _ aE=>⟨?_,rfl⟩
     simp only[Tag.R]at aE ⊢;have:=C2 cJ (iD ts c');simp only[ib,aE,this]
    have dM:∃v,(results fn cz.tmps).run P aN=.ok v aN/\∃u,Ending.returned v=.returned u/\gj ⟨w,fun b=>Bw b≠.bB,fun _=>(0,undef)⟩ aN/\
      ∃a1:Own,(∀b,b<w.heap.size->Bw b=.bB->a1 b=.bB)/\(∀b,a1 b≠.bB->(∃t q,a1 b=.tok t q)/\∃arr ty,aN.heap[b]?=some (.cells arr ty (0,0)))/\Kept aN a1 args vs/\l3 aN a1 ds u:=by
     refine⟨_,?_,_,rfl,⟨aV.below.os,aV.below.tape,aV.below.output,aV.below.size,aV.below.block,aV.below.drawn,aV.below.laid,aV.below.free⟩,ib ω (ts++(kC 0 args st.env).2),fun b ar au=>?_,fun b ar=>?_,Gn,hA _ rfl⟩
     ·rw[I2,Sem.run_bind,hm];rfl
     ·cases c8:ω b with
      | bB=>simp[ib,c8]
      | box id=>simp[ib,c8]
      | tok t q=>
       rcases (aV.owned b (by simp[c8])).1 with h | h
       ·exact absurd ar (by have h:w.heap.size<=b:=h;omega)
       exact absurd au h
     cases c8:ω b with
     | bB=>simp[ib,c8]at ar
     | box id=>simp[ib,c8]at ar
     | tok t q=>
      refine⟨?_,(aV.owned b (by simp[c8])).2⟩;simp only[ib,c8]at ar ⊢;cases j1:(ts++(kC 0 args st.env).2).at t with
      | none=>simp[j1]at ar
      | some n=>exact⟨n,q,rfl⟩
    obtain⟨v,bA,bP⟩:=dM;rcases he with rfl | rfl
    ·exact⟨aV.defers,v,bA,bP⟩
    exact⟨aV.defers,v,bA,bP⟩
   cases eP
  cases eP
 cases eP
def HK(P:Program)(c:Code)(ntmps:Nat)(jq:List ResultVar)(args:List GA)(hint:List cF)(ans:List b9):Option (List cF×List GA×List Prop):=
 match run P c (wP args ntmps) ans with
 | some (.ret,st,_,obs)=>(qV P st jq args hint).map fun rs=>(rs.1,rs.2,obs)
 | some (.normal,st,_,obs)=>(qV P st jq args hint).map fun rs=>(rs.1,rs.2,obs)
 | _=>none
theorem kI.of{P:Program}{f:FuncId}{fn:Func}{args:List GA}{rs:List cF}(ans:List b9)(obs:List Prop)(bT:P.funcs[f]?=some fn)(ar:fn.body.isSome=true)
  (h:HK P (mI fn) fn.ntmps fn.results.toList args rs ans=some (rs,args,obs)) (aZ:cG obs):kI P f args rs:=by
 obtain⟨c,ai⟩:=oS.1 ar;have yB:mI fn=c:=by simp[mI,ai]
 unfold HK at h;rw[yB]at h;split at h
 ·rename_i st a lW aA;rw[b1]at h;obtain⟨⟨xJ,Lx⟩,h1,h⟩:=h;simp only[bx]at h;obtain⟨rfl,rfl,rfl⟩:=h;exact P3 bT ai aA aZ (.inl rfl) h1
 ·rename_i st a lW aA;rw[b1]at h;obtain⟨⟨xJ,Lx⟩,h1,h⟩:=h;simp only[bx]at h;obtain⟨rfl,rfl,rfl⟩:=h;exact P3 bT ai aA aZ (.inr rfl) h1
 cases h
end Go.Sx
namespace Go.Sx
open Go.RowKit
def gb(es:List (List Value)):List (List D):=es.map (·.map .v)
theorem C8(es:List (List Value)):(gb es).length=es.length:=by simp[gb]
variable{es:List (List Value)}
theorem P4{i j:Nat}{d:D}(h:cY (gb es) i j=some d):∃e v,es[i]?=some e/\e[j]?=some v/\d=.v v:=by
 unfold cY gb at h;rw[dj]at h;cases e1:es[i]? with
 | none=>simp[e1]at h
 | some e=>
  simp only[e1,l',l9,dj,b1]at h;obtain⟨v,h1,rfl⟩:=h;exact⟨e,v,rfl,h1,rfl⟩
theorem FE{i j:Nat}{e:List Value}{v:Value}(h1:es[i]?=some e)(U:e[j]?=some v):cY (gb es) i j=some (.v v):=by
 simp[cY,gb,h1,U]
structure Row (w:World) (b off k cap:Nat) (arr:Array Value) (ty:TypeId) (es:List (List Value)):Prop where
 heap:w.heap[b]?=some (.cells arr ty (0,0))
 room:es.length<=cap
 fit:off+cap*k<=arr.size
 len:∀e∈es,e.length=k
 one:∀e∈es,∀v∈e,v.oneCell'=true
 cell:∀i j e v,es[i]?=some e->e[j]?=some v->arr[off+i*k+j]?=some v
variable{w:World}{k:Nat}{ω:Own}
theorem Row.rep{b off cap:Nat}{arr:Array Value}{ty:TypeId}(h:Row w b off k cap arr ty es){R:List (Nat×Nat)->cV->Prop}(dM:R [] (ω b)):
  bV w ω R (.J k (gb es)) (.slice (some ⟨b,off,none⟩) es.length cap):=by
 have:=bV.row (w:=w) (ω:=ω) R k (gb es) b off cap arr ty (0,0) (fun i j=>arr.getD (off+i*k+j) undef) h.heap dM (by rw[C8];exact h.room) h.fit
  (by intro e he;simp only[gb,k5]at he;obtain⟨bE,bN,rfl⟩:=he;simpa using h.len bE bN)
  (by
   intro i j d aD;obtain⟨e,v,h1,U,rfl⟩:=P4 aD;have:=h.cell i j e v h1 U;simp[d',this])
  (by
   intro i j d aD;obtain⟨e,v,h1,U,rfl⟩:=P4 aD;have aw:=h.cell i j e v h1 U;have:arr.getD (off+i*k+j) undef=v:=by simp[d',aw]
   rw[this];exact .v _ _ (h.one e (fl h1) v (fl U)))
 rwa[C8]at this
theorem Fg.row{w:World}{ω:Own}(au:Fg w ω){t:Nat}{y:Value}(h:bV w ω (Tag.own t).R (.J k (gb es)) y):
  (es=[]/\∃a,y=.slice a 0 0)\/∃b off cap arr ty,ω b=.tok t []/\y=.slice (some ⟨b,off,none⟩) es.length cap/\Row w b off k cap arr ty es:=by
 generalize aD:D.J k (gb es)=d at h;cases h with
 | nil R k a=>
  simp only[D.J.injEq]at aD;exact .inl ⟨by simpa[gb]using aD.2,a,rfl⟩
 | row R k cr b off cap arr ty cO us ar dM ai aj hk hu dJ=>
  simp only[D.J.injEq]at aD;obtain⟨rfl,rfl⟩:=aD;simp only[Tag.R]at dM;obtain⟨_,b7,p6,aw⟩:=au b (by rw[dM];simp);rw[ar]at aw;simp only[aR,Obj.cells.injEq]at aw;obtain⟨rfl,rfl,rfl⟩:=aw;refine .inr ⟨b,off,cap,arr,ty,dM,by rw[C8],ar,by rwa[C8]at ai,aj,fun e he=>?_,fun e he v bt=>?_,fun i j e v h1 U=>?_⟩
  ·have:=hk (e.map .v) (by simp only[gb,k5];exact⟨e,he,rfl⟩);simpa using this
  ·obtain⟨i,hi⟩:=oT.1 he;obtain⟨j,a6⟩:=oT.1 bt;have:=dJ i j (.v v) (FE hi a6);generalize us i j=u at this;cases this with
   | v _ _ h1=>exact h1
  have aw:=hu i j (.v v) (FE h1 U);have aH:=dJ i j (.v v) (FE h1 U);generalize us i j=u at aw aH;cases aH with
  | v=>exact aw
 | v=>cases aD
 | ptr=>cases aD
 | cl=>cases aD
structure Fh (w aN:World) (own:Nat->Prop) (k:Nat) (es:List (List Value)) (v:Value):Prop where
 V4:ug ⟨w,own,fun _=>(0,undef)⟩ aN
 row:(es=[]/\∃a,v=.slice a 0 0)\/∃b off cap arr ty,(own b\/w.heap.size<=b)/\v=.slice (some ⟨b,off,none⟩) es.length cap/\Row aN b off k cap arr ty es
theorem Fh.res{aN:World}{v:Value}(h:Fh w aN (fun b=>ω b≠.bB) k es v):
  ∃a1:Own,(∀b,b<w.heap.size->ω b=.bB->a1 b=.bB)/\(∀b,a1 b≠.bB->(∃t q,a1 b=.tok t q)/\∃arr ty,aN.heap[b]?=some (.cells arr ty (0,0)))/\l3 aN a1 [.one (.J k (gb es))] v:=by
 rcases h.row with⟨rfl,a,rfl⟩ | ⟨b,off,cap,arr,ty,aZ,rfl,aA⟩
 ·exact⟨fun _=>.bB,fun _ _ _=>rfl,fun b ar=>absurd rfl ar,bV.nil _ k a⟩
 refine⟨fun c=>if c=b then .tok 0 [] else .bB,fun c ai he=>?_,fun c ai=>?_,?_⟩
 ·by_cases e:c=b
  ·subst e;rcases aZ with aZ | aZ
   ·exact absurd he aZ
   omega
  simp only[bh e]
 ·by_cases e:c=b
  ·subst e;exact⟨⟨0,[],by simp⟩,arr,ty,aA.heap⟩
  simp only[bh e]at ai;exact absurd rfl ai
 exact aA.rep (R:=(Tag.own 0).R) (by simp[Tag.R])
def D.AO:D->Value
 | .v x=>x
 | _=>undef
theorem V2{vs:Array Value}{a b c:Value}(h:vs.size=3)(bN:vs[0]?=some a)(h1:vs[1]?=some b)(U:vs[2]?=some c):vs=#[a,b,c]:=by
 apply Array.ext
 ·simpa using h
 intro i hi _;have ks:i<3:=by omega
 match i,ks with
 | 0,_=>simpa[gS hi]using bN
 | 1,_=>simpa[gS hi]using h1
 | 2,_=>simpa[gS hi]using U
theorem bV.Wm{R:List (Nat×Nat)->cV->Prop}{x y:Value}(h:bV w ω R (.v x) y):y=x:=by
 cases h;rfl
theorem akT{args:List GA}{vs:Array Value}(h:∀(i j:Nat) (et:GA) (k:Nat) (es cr:List (List D)),args[i]?=some et->et.cell j=some (.e9 k es (some cr))->False):Kept w ω args vs:=
 fun i j et k es cr h1 U=>(h i j et k es cr h1 U).elim
@[simp] theorem setRow_drawn (w : World) (b : Nat) (cs : Array Value) : (w.setRow b cs).drawn = w.drawn := rfl
theorem akU{own:Nat->Prop}{b:Nat}(ar:own b)(fS Fc:Array Value):ug ⟨w,own,fun _=>(0,undef)⟩ ((w.drew.setRow b fS).setRow b Fc):=by
 refine⟨rfl,rfl,rfl,by simp,fun k hk au=>?_,?_⟩
 ·have:k≠b:=fun e=>au (by rw[e];exact ar)
  rw[setRow_other _ b k _ this,setRow_other _ b k _ this];rfl
 intro _;show w.drawn<=w.drawn+1;omega
