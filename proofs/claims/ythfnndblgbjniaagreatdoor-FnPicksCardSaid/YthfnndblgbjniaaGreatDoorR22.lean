import Derived.Test.YthfnndblgbjniaaGreatDoorR15
set_option linter.unusedVariables false
set_option linter.unusedSimpArgs false
namespace Go.Sx
open Go.RowKit
def eL.leaf(t:Nat):eL->aE
 | .ro d=>d.leaf .free
 | .e3 k es _=>.J (.own t) k es
def uv(i:Nat):Nat->List eL->List aE
 | _,[]=>[]
 | j,c::cs=>c.leaf (fu i j)::uv i (j+1) cs
def GA.aC(i:Nat):GA->bl
 | .one c=>.one (c.leaf (fu i 0))
 | .agg cs=>.agg (uv i 0 cs)
def tw:Nat->List GA->List aG
 | _,[]=>[]
 | i,a::as=>.aC (a.aC i)::tw (i+1) as
def xq(args:List GA)(ntmps:Nat):aF:=⟨tw 0 args++List.replicate (ntmps-args.length) .cw,[]⟩
def eL.post:eL->aE->eL
 | .e3 k es (some _),.J (.own _) cu cv=>if cu=k then .e3 k es (some cv) else .e3 k es none
 | .e3 k es _,_=>.e3 k es none
 | c,_=>c
def N7(args:List GA):Bool:=args.all fun | .one _=>true | .agg cs=>decide (cs.length<=100)
def N8(args:List GA)(t:Nat):Nat:=
 match (args[(t-da) / 100]?).bind (GA.cell ((t-da) % 100)) with
 | some (.e3 k _ _)=>k
 | _=>0
def yX(args:List GA)(vs:Array Value)(t:Nat):Nat×Value:=(N8 args t,cellOf (vs.getD ((t-da) / 100) undef) ((t-da) % 100))
theorem GU{args:List GA}{vs:Array Value}{i j:Nat}(bm:j<100){eY:GA}(aj:args[i]?=some eY){k:Nat}{es:List (List D)}{post:Option (List (List D))}(ao:eY.cell j=some (.e3 k es post)):
  yX args vs (fu i j)=(k,cellOf (vs.getD i undef) j):=by
 have e1:(fu i j-da) / 100=i:=by simp only[fu];omega
 have e2:(fu i j-da) % 100=j:=by simp only[fu];omega
 simp only[yX,N8,e1,e2,aj,nL,ao]
theorem RH(i:Nat):∀(cs:List eL) (j x:Nat),(uv i j cs)[x]?=(cs[x]?).map fun c=>c.leaf (fu i (j+x))
 | [],j,x=>by simp[uv]
 | c::cs,j,0=>by simp[uv]
 | c::cs,j,x+1=>by
  simp only[uv,mL,RH i cs (j+1) x];rw[show j+1+x=j+(x+1) by omega]
theorem RI(i:Nat):∀(cs:List eL) (j:Nat),(uv i j cs).length=cs.length
 | [],_=>rfl
 | c::cs,j=>by simp[uv,RI i cs (j+1)]
theorem RJ:∀(as:List GA) (i x:Nat),(tw i as)[x]?=(as[x]?).map fun a=>.aC (a.aC (i+x))
 | [],i,x=>by simp[tw]
 | a::as,i,0=>by simp[tw]
 | a::as,i,x+1=>by
  simp only[tw,mL,RJ as (i+1) x];rw[show i+1+x=i+(x+1) by omega]
theorem J5:∀(as:List GA) (i:Nat),(tw i as).length=as.length
 | [],_=>rfl
 | a::as,i=>by simp[tw,J5 as (i+1)]
theorem uZ.sat{w:World}{ω:Own}{τ:Nat->Nat×Value}{t:Nat}{c:eL}{y:Value}(h:uZ w ω t c y)(su:∀k es post,c=.e3 k es post->τ t=(k,y)):Sat w ω τ (c.leaf t) y:=by
 cases c with
 | ro d=>exact D.dN (t:=.free) (p:=(0,0)) h
 | e3 k es post=>exact⟨h,su k es post rfl⟩
theorem apm{w:World}{ω:Own}{args:List GA}{vs:Array Value}(ee:N7 args=true)(h:Gq w ω args vs)(ob:Tidy w ω)(ntmps:Nat):
  Rel ⟨w,fun b=>ω b≠.bG,yX args vs⟩ (xq args ntmps) { tmps:=vs++Array.replicate (ntmps-vs.size) undef,defers:=[] } w:=by
 obtain⟨ax,a',aj⟩:=h;refine⟨ω,yX args vs,rfl,by simp[xq,a',J5],gz.start ob,fun b ay=>⟨.inr ay,(ax b ay).2⟩,fun _ _=>rfl,(fun id b _ ay=>by
  obtain⟨⟨t,q,e,_⟩,_⟩:=ax b (by rw[ay];simp);rw[ay]at e;cases e),?_,fun id ls ar=>by simp[xq,dD]at ar⟩
 intro i p hp;simp only[xq]at hp;rw[pz,J5]at hp;split at hp
 ·rename_i hi;rw[RJ,ca]at hp;obtain⟨eY,iG,rfl⟩:=hp;rw[dW];obtain⟨v,bx,cN⟩:=aj i eY iG;have nh:i<vs.size:=by omega
  refine⟨v,by rw[jE,bL nh,bx],?_⟩;have OZ:vs.getD i undef=v:=by simp[eR,bx]
  cases eY with
  | one c=>
   refine uZ.sat cN fun k es post ao=>?_
   have:=GU (args:=args) (vs:=vs) (i:=i) (j:=0) (by omega) iG (k:=k) (es:=es) (post:=post) (by simp[GA.cell,ao]);rw[this,OZ];subst ao;have aH:b1 w ω (Tag.own (fu i 0)).R (.J k es) v:=cN;obtain⟨b,c,rfl⟩:=aH.len;rfl
  | agg cs=>
   obtain⟨us,rfl,hlen,o5⟩:=cN;refine⟨us,rfl,by rw[RI];exact hlen,fun j l ar=>?_⟩;rw[RH,ca]at ar;obtain⟨c,ao,rfl⟩:=ar;rw[dW];obtain⟨u,hu,cN⟩:=o5 j c ao;have bm:j<100:=by
    have U:=fU.1 ee _ (fI iG);simp only[c3]at U;have:=(fP.1 ao).1;omega
   refine⟨u,hu,uZ.sat cN fun k es post e=>?_⟩;rw[GU (args:=args) (vs:=vs) bm iG (k:=k) (es:=es) (post:=post) (by simp only[GA.cell,ao,e]),OZ];simp[cellOf,Value.cells,eR,hu]
 rename_i hi;rw[B9]at hp;split at hp
 ·rename_i bO;simp only[aW]at hp;subst hp;refine⟨undef,?_,ad⟩;rw[jE,bH (by omega),Array.getElem?_replicate,bL (by omega)]
 cases hp
end Go.Sx
namespace Go.Sx
open Go.RowKit
def eL.found(t:Nat):eL->Option aE->eL×hY
 | .ro d,_=>(.ro d,[])
 | .e3 k es (some _),some (.J (.own s) cu cv)=>if s=t/\cu=k then (.e3 k es (some cv),[(t,t)]) else (.e3 k es none,[])
 | .e3 k es _,_=>(.e3 k es none,[])
def nB(i:Nat):Nat->List eL->List aE->List eL×hY
 | _,[],_=>([],[])
 | j,c::cs,ls=>((c.found (fu i j) ls.head?).1::(nB i (j+1) cs ls.tail).1,(c.found (fu i j) ls.head?).2++(nB i (j+1) cs ls.tail).2)
def GA.found(i:Nat):GA->aG->GA×hY
 | .one c,p=>(.one (c.found (fu i 0) p.leaf).1,(c.found (fu i 0) p.leaf).2)
 | .agg cs,.aC (.agg ls)=>(.agg (nB i 0 cs ls).1,(nB i 0 cs ls).2)
 | .agg cs,_=>(.agg (nB i 0 cs []).1,(nB i 0 cs []).2)
def k9:Nat->List GA->List aG->List GA×hY
 | _,[],_=>([],[])
 | i,a::as,b7=>((a.found i (b7.headD .cw)).1::(k9 (i+1) as b7.tail).1,(a.found i (b7.headD .cw)).2++(k9 (i+1) as b7.tail).2)
theorem eL.CG{t:Nat}{c:eL}{l:Option aE}{k:Nat}{es cv:List (List D)}(h:(c.found t l).1=.e3 k es (some cv)):l=some (.J (.own t) k cv)/\(t,t)∈(c.found t l).2:=by
 unfold eL.found at h ⊢;split at h
 ·cases h
 ·rename_i dk dM p s cu axz;split at h
  ·rename_i ao;obtain⟨rfl,rfl⟩:=ao;simp only[eL.e3.injEq,aW]at h;obtain⟨rfl,_,rfl⟩:=h;exact⟨rfl,by simp⟩
  cases h
 cases h
theorem J6(i:Nat):∀{cs:List eL} {ls:List aE} {j x k:Nat} {es cv:List (List D)},(nB i j cs ls).1[x]?=some (.e3 k es (some cv))->
  ls[x]?=some (.J (.own (fu i (j+x))) k cv)/\(fu i (j+x),fu i (j+x))∈(nB i j cs ls).2
 | [],ls,j,x,k,es,cv,h=>by simp[nB]at h
 | c::cs,ls,j,0,k,es,cv,h=>by
  simp only[nB,lg,aW]at h;obtain⟨U,aa⟩:=eL.CG h;refine⟨by cases ls<;>simp_all,?_⟩;simp only[nB];exact iy _ aa
 | c::cs,ls,j,x+1,k,es,cv,h=>by
  simp only[nB,mL]at h;obtain⟨U,aa⟩:=J6 i h;rw[show j+1+x=j+(x+1) by omega]at U aa;refine⟨by cases ls<;>simp_all,?_⟩;simp only[nB];exact jD _ aa
def yj(j:Nat):bl->Option aE
 | .one l=>if j=0 then some l else none
 | .agg ls=>ls[j]?
theorem GA.CG{i j:Nat}{a:GA}{p:aG}{k:Nat}{es cv:List (List D)}(h:(a.found i p).1.cell j=some (.e3 k es (some cv))):
  ∃aC,p=.aC aC/\yj j aC=some (.J (.own (fu i j)) k cv)/\(fu i j,fu i j)∈(a.found i p).2:=by
 cases a with
 | one c=>
  simp only[GA.found,GA.cell]at h ⊢;split at h
  ·rename_i bm;subst bm;simp only[aW]at h;obtain⟨U,aa⟩:=eL.CG h;cases p with
   | fN as=>cases U
   | aC a=>
    cases a with
    | agg ls=>cases U
    | one l=>
     simp only[aG.leaf,aW]at U;exact⟨_,rfl,by simp[yj,U],aa⟩
  cases h
 | agg cs=>
  have Pl:∀q:List eL×hY,q=nB i 0 cs []->q.1[j]?=some (.e3 k es (some cv))->False:=by
   rintro q rfl h;have:=(J6 i h).1;simp at this
  cases p with
  | fN as=>exact (Pl _ rfl h).elim
  | aC a=>
   cases a with
   | one l=>exact (Pl _ rfl h).elim
   | agg ls=>
    simp only[GA.found,GA.cell]at h ⊢;obtain⟨U,aa⟩:=J6 i h;rw[dW]at U aa;exact⟨_,rfl,by simp[yj,U],aa⟩
theorem RK:∀{as:List GA} {b7:List aG} {i x j:Nat} {a:GA} {k:Nat} {es cv:List (List D)},(k9 i as b7).1[x]?=some a->a.cell j=some (.e3 k es (some cv))->
  ∃aC,b7[x]?=some (.aC aC)/\yj j aC=some (.J (.own (fu (i+x) j)) k cv)/\(fu (i+x) j,fu (i+x) j)∈(k9 i as b7).2
 | [],b7,i,x,j,a,k,es,cv,h,_=>by simp[k9]at h
 | b::as,b7,i,0,j,a,k,es,cv,h,ao=>by
  simp only[k9,lg,aW]at h;subst h;obtain⟨aC,U,aa,aB⟩:=GA.CG ao;refine⟨aC,?_,aa,?_⟩
  ·cases b7 with
   | nil=>
    simp only[List.headD_nil]at U;cases U;simp only[yj]at aa;split at aa<;>simp at aa
   | cons p b7=>simpa using U
  simp only[k9];exact iy _ aB
 | b::as,b7,i,x+1,j,a,k,es,cv,h,ao=>by
  simp only[k9,mL]at h;obtain⟨aC,U,aa,aB⟩:=RK h ao;rw[show i+1+x=i+(x+1) by omega]at aa aB;refine⟨aC,by cases b7<;>simp_all,aa,?_⟩;simp only[k9];exact jD _ aB
def qH(P:Program)(st:aF)(jW:List ResultVar)(args:List GA)(hint:List cJ):Option (List cJ×List GA):=
 match jW.mapM (qu P st) with
 | some b7=>
  match rK 0 b7 hint with
  | some (ds,ts)=>if N7 args&&Dw (ts++(k9 0 args st.env).2) then some (ds,(k9 0 args st.env).1) else none
  | none=>none
 | none=>none
theorem RL{P:Program}{f:FuncId}{fn:Func}{c:Code}{args:List GA}{rs:List cJ}{ans cm:List cd}{obs:List Prop}{e:hD}{st:aF}(b8:P.funcs[f]?=some fn)(ay:fn.body=some c)
  (fv:run P c (xq args fn.ntmps) ans=some (e,st,cm,obs)) (bc:cK obs) (he:e=.ret\/e=.normal) (e4:qH P st fn.results.toList args rs=some (rs,args)):kl P f args rs:=by
 intro w vs Cb mu ob;unfold qH at e4;split at e4
 ·rename_i b7 sn;split at e4
  ·rename_i ds ts eU;split at e4
   ·rename_i cN;simp only[aW,bA]at e4;obtain⟨rfl,YE⟩:=e4;rw[cH]at cN;obtain⟨ee,cN⟩:=cN;refine calls_of_wp b8 ay (Code.wp_mono (fun e' cI aN hp=>?_) (nz c fv bc _ _ w (apm ee mu ob fn.ntmps)));obtain⟨rfl,ω,τ,aZ⟩:=hp;obtain⟨zs,U,aa,aB⟩:=Dz aZ sn;obtain⟨aJ,a6⟩:=Dy (w:=aN) (ω:=ω) (τ:=τ) (ts:=ts++(k9 0 args st.env).2) (fun t n h=>Dx cN h) eU (fun x aq=>iy _ aq);have hm:=D8 (P:=P) _ fn.results aN _ U;have fo:∀(j:Nat) (d:cJ),ds[j]?=some d->∃z,zs[j]?=some z/\l6 aN (ij ω (ts++(k9 0 args st.env).2)) j d z:=by
     intro j d aI;obtain⟨p,hp,sl⟩:=a6 j d aI;obtain⟨z,bp,rb⟩:=aB j p hp;exact⟨z,bp,by have:=sl z rb;rwa[dW]at this⟩
    have lZ:zs.length=ds.length:=by omega
    have hQ:∀v,(if h:zs.toArray.size=1 then zs.toArray[0] else .tuple zs.toArray)=v->mB aN (ij ω (ts++(k9 0 args st.env).2)) ds v:=by
     intro v bx;unfold mB;split
     ·rename_i cq;obtain⟨z,bp,ao⟩:=fo 0 cq rfl;have U:zs.length=1:=by rw[lZ];rfl
      have ra:zs=[z]:=by
       match zs,U,bp with
       | [z0],_,bp=>simp at bp;rw[bp]
      have HU:v=z:=by
       rw[<-bx];simp[ra]
      rw[HU];exact ao
     rename_i db;have U:¬zs.toArray.size=1:=by
      intro h;simp at h;rw[lZ]at h;obtain⟨d,aI⟩:=List.length_eq_one_iff.1 h;exact db d aI
     rw[dif_neg U]at bx;exact⟨zs.toArray,bx.symm,by simpa using lZ,fun r cq aH=>by obtain⟨z,bp,ao⟩:=fo r cq aH;exact⟨z,by simpa using bp,ao⟩⟩
    have Hz:Kept aN (ij ω (ts++(k9 0 args st.env).2)) args vs:=by
     intro i j eY k es cv iG ao;have YI:(k9 0 args st.env).1[i]?=some eY:=by rw[YE];exact iG
     obtain⟨aC,bF,bY,dy⟩:=RK YI ao;rw[dW]at bY dy;obtain⟨v,bx,ak⟩:=aZ.env i _ bF;have eN:∃u,Sat aN ω τ (.J (.own (fu i j)) k cv) u:=by
      cases aC with
      | one l=>
       simp only[yj]at bY;split at bY
       ·simp only[aW]at bY;exact⟨v,bY▸ak⟩
       cases bY
      | agg ls=>
       obtain⟨us,_,_,hu⟩:=ak;obtain⟨u,_,eg⟩:=hu j _ bY;exact⟨u,eg⟩
     obtain⟨u,aH,bD⟩:=eN;have bm:j<100:=by
      cases eY with
      | one c=>simp only[GA.cell]at ao;split at ao<;>first | omega | cases ao
      | agg cs=>
       have U:=fU.1 ee _ (fI iG);simp only[c3]at U;have:=(fP.1 ao).1;omega
     have tG:=aZ.fixed (fu i j) (by simp[fu]);have YK:=GU (args:=args) (vs:=vs) bm iG ao;have:u=cellOf (vs.getD i undef) j:=by
      have eg:τ (fu i j)=(k,u):=bD;rw[tG]at eg;have dH:yX args vs (fu i j)=(k,u):=eg;rw[YK]at dH;exact (Prod.mk.inj dH).2.symm
     subst this;refine aH.frame fun b q _ aL=>⟨?_,rfl⟩
     simp only[Tag.R]at aL ⊢;have:=Dx cN (jD ts dy);simp only[ij,aL,this]
    have dY:∃v,(results fn cI.tmps).run P aN=.ok v aN/\∃u,Ending.returned v=.returned u/\gz ⟨w,fun b=>Cb b≠.bG,fun _=>(0,undef)⟩ aN/\
      ∃bd:Own,(∀b,b<w.heap.size->Cb b=.bG->bd b=.bG)/\(∀b,bd b≠.bG->(∃t q,bd b=.tok t q)/\∃arr ty,aN.heap[b]?=some (.cells arr ty (0,0)))/\Kept aN bd args vs/\mB aN bd ds u:=by
     refine⟨_,?_,_,rfl,⟨aZ.below.os,aZ.below.tape,aZ.below.output,aZ.below.size,aZ.below.block,aZ.below.drawn,aZ.below.laid,aZ.below.free⟩,ij ω (ts++(k9 0 args st.env).2),fun b ay ax=>?_,fun b ay=>?_,Hz,hQ _ rfl⟩
     ·rw[KP,Sem.run_bind,hm];rfl
     ·cases dj:ω b with
      | bG=>simp[ij,dj]
      | box id=>simp[ij,dj]
      | tok t q=>
       rcases (aZ.owned b (by simp[dj])).1 with h | h
       ·exact absurd ay (by have h:w.heap.size<=b:=h;omega)
       exact absurd ax h
     cases dj:ω b with
     | bG=>simp[ij,dj]at ay
     | box id=>simp[ij,dj]at ay
     | tok t q=>
      refine⟨?_,(aZ.owned b (by simp[dj])).2⟩;simp only[ij,dj]at ay ⊢;cases kr:(ts++(k9 0 args st.env).2).at t with
      | none=>simp[kr]at ay
      | some n=>exact⟨n,q,rfl⟩
    obtain⟨v,bF,bY⟩:=dY;rcases he with rfl | rfl
    ·exact⟨aZ.defers,v,bF,bY⟩
    exact⟨aZ.defers,v,bF,bY⟩
   cases e4
  cases e4
 cases e4
def IP(P:Program)(c:Code)(ntmps:Nat)(jW:List ResultVar)(args:List GA)(hint:List cJ)(ans:List cd):Option (List cJ×List GA×List Prop):=
 match run P c (xq args ntmps) ans with
 | some (.ret,st,_,obs)=>(qH P st jW args hint).map fun rs=>(rs.1,rs.2,obs)
 | some (.normal,st,_,obs)=>(qH P st jW args hint).map fun rs=>(rs.1,rs.2,obs)
 | _=>none
theorem kl.of{P:Program}{f:FuncId}{fn:Func}{args:List GA}{rs:List cJ}(ans:List cd)(obs:List Prop)(b8:P.funcs[f]?=some fn)(ay:fn.body.isSome=true)
  (h:IP P (nA fn) fn.ntmps fn.results.toList args rs ans=some (rs,args,obs)) (bc:cK obs):kl P f args rs:=by
 obtain⟨c,ao⟩:=qO.1 ay;have zh:nA fn=c:=by simp[nA,ao]
 unfold IP at h;rw[zh]at h;split at h
 ·rename_i st a mz aH;rw[ca]at h;obtain⟨⟨yr,Mr⟩,U,h⟩:=h;simp only[bA]at h;obtain⟨rfl,rfl,rfl⟩:=h;exact RL b8 ao aH bc (.inl rfl) U
 ·rename_i st a mz aH;rw[ca]at h;obtain⟨⟨yr,Mr⟩,U,h⟩:=h;simp only[bA]at h;obtain⟨rfl,rfl,rfl⟩:=h;exact RL b8 ao aH bc (.inr rfl) U
 cases h
end Go.Sx
namespace Go.Sx
open Go.RowKit
def gn(es:List (List Value)):List (List D):=es.map (·.map .v)
theorem EO(es:List (List Value)):(gn es).length=es.length:=by simp[gn]
variable{es:List (List Value)}
theorem RM{i j:Nat}{d:D}(h:c5 (gn es) i j=some d):∃e v,es[i]?=some e/\e[j]?=some v/\d=.v v:=by
 unfold c5 gn at h;rw[dP]at h;cases e1:es[i]? with
 | none=>simp[e1]at h
 | some e=>
  simp only[e1,rR,nL,dP,ca]at h;obtain⟨v,U,rfl⟩:=h;exact⟨e,v,rfl,U,rfl⟩
theorem GO{i j:Nat}{e:List Value}{v:Value}(U:es[i]?=some e)(aa:e[j]?=some v):c5 (gn es) i j=some (.v v):=by
 simp[c5,gn,U,aa]
structure Row (w:World) (b off k cap:Nat) (arr:Array Value) (ty:TypeId) (es:List (List Value)):Prop where
 heap:w.heap[b]?=some (.cells arr ty (0,0))
 room:es.length<=cap
 fit:off+cap*k<=arr.size
 len:∀e∈es,e.length=k
 one:∀e∈es,∀v∈e,v.oneCell'=true
 cell:∀i j e v,es[i]?=some e->e[j]?=some v->arr[off+i*k+j]?=some v
variable{w:World}{k:Nat}{ω:Own}
theorem Row.rep{b off cap:Nat}{arr:Array Value}{ty:TypeId}(h:Row w b off k cap arr ty es){R:List (Nat×Nat)->di->Prop}(dY:R [] (ω b)):
  b1 w ω R (.J k (gn es)) (.slice (some ⟨b,off,none⟩) es.length cap):=by
 have:=b1.row (w:=w) (ω:=ω) R k (gn es) b off cap arr ty (0,0) (fun i j=>arr.getD (off+i*k+j) undef) h.heap dY (by rw[EO];exact h.room) h.fit
  (by intro e he;simp only[gn,mO]at he;obtain⟨bz,b4,rfl⟩:=he;simpa using h.len bz b4)
  (by
   intro i j d aI;obtain⟨e,v,U,aa,rfl⟩:=RM aI;have:=h.cell i j e v U aa;simp[eR,this])
  (by
   intro i j d aI;obtain⟨e,v,U,aa,rfl⟩:=RM aI;have aB:=h.cell i j e v U aa;have:arr.getD (off+i*k+j) undef=v:=by simp[eR,aB]
   rw[this];exact .v _ _ (h.one e (fI U) v (fI aa)))
 rwa[EO]at this
theorem Gr.row{w:World}{ω:Own}(ax:Gr w ω){t:Nat}{y:Value}(h:b1 w ω (Tag.own t).R (.J k (gn es)) y):
  (es=[]/\∃a,y=.slice a 0 0)\/∃b off cap arr ty,ω b=.tok t []/\y=.slice (some ⟨b,off,none⟩) es.length cap/\Row w b off k cap arr ty es:=by
 generalize aI:D.J k (gn es)=d at h;cases h with
 | nil R k a=>
  simp only[D.J.injEq]at aI;exact .inl ⟨by simpa[gn]using aI.2,a,rfl⟩
 | row R k cv b off cap arr ty cT us ay dY ao ak ba hu ez=>
  simp only[D.J.injEq]at aI;obtain⟨rfl,rfl⟩:=aI;simp only[Tag.R]at dY;obtain⟨_,ci,qJ,aB⟩:=ax b (by rw[dY];simp);rw[ay]at aB;simp only[aW,Obj.cells.injEq]at aB;obtain⟨rfl,rfl,rfl⟩:=aB;refine .inr ⟨b,off,cap,arr,ty,dY,by rw[EO],ay,by rwa[EO]at ao,ak,fun e he=>?_,fun e he v bx=>?_,fun i j e v U aa=>?_⟩
  ·have:=ba (e.map .v) (by simp only[gn,mO];exact⟨e,he,rfl⟩);simpa using this
  ·obtain⟨i,hi⟩:=oN.1 he;obtain⟨j,bm⟩:=oN.1 bx;have:=ez i j (.v v) (GO hi bm);generalize us i j=u at this;cases this with
   | v _ _ U=>exact U
  have aB:=hu i j (.v v) (GO U aa);have aJ:=ez i j (.v v) (GO U aa);generalize us i j=u at aB aJ;cases aJ with
  | v=>exact aB
 | v=>cases aI
 | ptr=>cases aI
 | a8=>cases aI
structure Ci (w aN:World) (own:Nat->Prop) (k:Nat) (es:List (List Value)) (v:Value):Prop where
 NS:uY ⟨w,own,fun _=>(0,undef)⟩ aN
 row:(es=[]/\∃a,v=.slice a 0 0)\/∃b off cap arr ty,(own b\/w.heap.size<=b)/\v=.slice (some ⟨b,off,none⟩) es.length cap/\Row aN b off k cap arr ty es
theorem Ci.res{aN:World}{v:Value}(h:Ci w aN (fun b=>ω b≠.bG) k es v):
  ∃bd:Own,(∀b,b<w.heap.size->ω b=.bG->bd b=.bG)/\(∀b,bd b≠.bG->(∃t q,bd b=.tok t q)/\∃arr ty,aN.heap[b]?=some (.cells arr ty (0,0)))/\mB aN bd [.one (.J k (gn es))] v:=by
 rcases h.row with⟨rfl,a,rfl⟩ | ⟨b,off,cap,arr,ty,bc,rfl,aH⟩
 ·exact⟨fun _=>.bG,fun _ _ _=>rfl,fun b ay=>absurd rfl ay,b1.nil _ k a⟩
 refine⟨fun c=>if c=b then .tok 0 [] else .bG,fun c ao he=>?_,fun c ao=>?_,?_⟩
 ·by_cases e:c=b
  ·subst e;rcases bc with bc | bc
   ·exact absurd he bc
   omega
  simp only[bH e]
 ·by_cases e:c=b
  ·subst e;exact⟨⟨0,[],by simp⟩,arr,ty,aH.heap⟩
  simp only[bH e]at ao;exact absurd rfl ao
 exact aH.rep (R:=(Tag.own 0).R) (by simp[Tag.R])
def D.Bt:D->Value
 | .v x=>x
 | _=>undef
theorem NQ{vs:Array Value}{a b c:Value}(h:vs.size=3)(b4:vs[0]?=some a)(U:vs[1]?=some b)(aa:vs[2]?=some c):vs=#[a,b,c]:=by
 apply Array.ext
 ·simpa using h
 intro i hi _;have nh:i<3:=by omega
 match i,nh with
 | 0,_=>simpa[lI hi]using b4
 | 1,_=>simpa[lI hi]using U
 | 2,_=>simpa[lI hi]using aa
theorem b1.CE{R:List (Nat×Nat)->di->Prop}{x y:Value}(h:b1 w ω R (.v x) y):y=x:=by
 cases h;rfl
theorem RN{args:List GA}{vs:Array Value}(h:∀(i j:Nat) (eY:GA) (k:Nat) (es cv:List (List D)),args[i]?=some eY->eY.cell j=some (.e3 k es (some cv))->False):Kept w ω args vs:=
 fun i j eY k es cv U aa=>(h i j eY k es cv U aa).elim
@[simp] theorem setRow_drawn (w : World) (b : Nat) (cs : Array Value) : (w.setRow b cs).drawn = w.drawn := rfl
theorem RO{own:Nat->Prop}{b:Nat}(ay:own b)(dv Gn:Array Value):uY ⟨w,own,fun _=>(0,undef)⟩ ((w.drew.setRow b dv).setRow b Gn):=by
 refine⟨rfl,rfl,rfl,by simp,fun k ba ax=>?_,?_⟩
 ·have:k≠b:=fun e=>ax (by rw[e];exact ay)
  rw[setRow_other _ b k _ this,setRow_other _ b k _ this];rfl
 intro _;show w.drawn<=w.drawn+1;omega
