import Derived.Test.YthfnndblgbjniaaGreatDoorR15
set_option linter.unusedVariables false
set_option linter.unusedSimpArgs false
namespace Go.Sx
open Go.RowKit
def ff.leaf(t:Nat):ff->aC
 | .ro d=>d.leaf .free
 | .fM k es _=>.J (.own t) k es
def sM(i:Nat):Nat->List ff->List aC
 | _,[]=>[]
 | j,c::cs=>c.leaf (e4 i j)::sM i (j+1) cs
def GA.az(i:Nat):GA->bg
 | .one c=>.one (c.leaf (e4 i 0))
 | .agg cs=>.agg (sM i 0 cs)
def r7:Nat->List GA->List aE
 | _,[]=>[]
 | i,a::as=>.az (a.az i)::r7 (i+1) as
def vT(args:List GA)(ntmps:Nat):aD:=⟨r7 0 args++List.replicate (ntmps-args.length) .cp,[]⟩
def ff.post:ff->aC->ff
 | .fM k es (some _),.J (.own _) cm cq=>if cm=k then .fM k es (some cq) else .fM k es none
 | .fM k es _,_=>.fM k es none
 | c,_=>c
def L6(args:List GA):Bool:=args.all fun | .one _=>true | .agg cs=>decide (cs.length<=100)
def L7(args:List GA)(t:Nat):Nat:=
 match (args[(t-cX) / 100]?).bind (GA.cell ((t-cX) % 100)) with
 | some (.fM k _ _)=>k
 | _=>0
def xr(args:List GA)(vs:Array Value)(t:Nat):Nat×Value:=(L7 args t,cellOf (vs.getD ((t-cX) / 100) undef) ((t-cX) % 100))
theorem EM{args:List GA}{vs:Array Value}{i j:Nat}(bm:j<100){eD:GA}(ai:args[i]?=some eD){k:Nat}{es:List (List D)}{post:Option (List (List D))}(ap:eD.cell j=some (.fM k es post)):
  xr args vs (e4 i j)=(k,cellOf (vs.getD i undef) j):=by
 have e1:(e4 i j-cX) / 100=i:=by simp only[e4];omega
 have e2:(e4 i j-cX) % 100=j:=by simp only[e4];omega
 simp only[xr,L7,e1,e2,ai,l8,ap]
theorem OQ(i:Nat):∀(cs:List ff) (j x:Nat),(sM i j cs)[x]?=(cs[x]?).map fun c=>c.leaf (e4 i (j+x))
 | [],j,x=>by simp[sM]
 | c::cs,j,0=>by simp[sM]
 | c::cs,j,x+1=>by
  simp only[sM,n7,OQ i cs (j+1) x];rw[show j+1+x=j+(x+1) by omega]
theorem OR(i:Nat):∀(cs:List ff) (j:Nat),(sM i j cs).length=cs.length
 | [],_=>rfl
 | c::cs,j=>by simp[sM,OR i cs (j+1)]
theorem OS:∀(as:List GA) (i x:Nat),(r7 i as)[x]?=(as[x]?).map fun a=>.az (a.az (i+x))
 | [],i,x=>by simp[r7]
 | a::as,i,0=>by simp[r7]
 | a::as,i,x+1=>by
  simp only[r7,n7,OS as (i+1) x];rw[show i+1+x=i+(x+1) by omega]
theorem Ia:∀(as:List GA) (i:Nat),(r7 i as).length=as.length
 | [],_=>rfl
 | a::as,i=>by simp[r7,Ia as (i+1)]
theorem tp.sat{w:World}{ω:Own}{τ:Nat->Nat×Value}{t:Nat}{c:ff}{y:Value}(h:tp w ω t c y)(q5:∀k es post,c=.fM k es post->τ t=(k,y)):Sat w ω τ (c.leaf t) y:=by
 cases c with
 | ro d=>exact D.dt (t:=.free) (p:=(0,0)) h
 | fM k es post=>exact⟨h,q5 k es post rfl⟩
theorem ajC{w:World}{ω:Own}{args:List GA}{vs:Array Value}(ez:L6 args=true)(h:Ee w ω args vs)(oG:Tidy w ω)(ntmps:Nat):
  Rel ⟨w,fun b=>ω b≠.bz,xr args vs⟩ (vT args ntmps) { tmps:=vs++Array.replicate (ntmps-vs.size) undef,defers:=[] } w:=by
 obtain⟨ay,a7,ai⟩:=h;refine⟨ω,xr args vs,rfl,by simp[vT,a7,Ia],fX.start oG,fun b aw=>⟨.inr aw,(ay b aw).2⟩,fun _ _=>rfl,(fun id b _ aw=>by
  obtain⟨⟨t,q,e,_⟩,_⟩:=ay b (by rw[aw];simp);rw[aw]at e;cases e),?_,fun id ls au=>by simp[vT,dh]at au⟩
 intro i p hp;simp only[vT]at hp;rw[n5,Ia]at hp;split at hp
 ·rename_i hi;rw[OS,b0]at hp;obtain⟨eD,kC,rfl⟩:=hp;rw[dL];obtain⟨v,br,cG⟩:=ai i eD kC;have kD:i<vs.size:=by omega
  refine⟨v,by rw[kU,bU kD,br],?_⟩;have MX:vs.getD i undef=v:=by simp[eg,br]
  cases eD with
  | one c=>
   refine tp.sat cG fun k es post ap=>?_
   have:=EM (args:=args) (vs:=vs) (i:=i) (j:=0) (by omega) kC (k:=k) (es:=es) (post:=post) (by simp[GA.cell,ap]);rw[this,MX];subst ap;have aI:bS w ω (Tag.own (e4 i 0)).R (.J k es) v:=cG;obtain⟨b,c,rfl⟩:=aI.len;rfl
  | agg cs=>
   obtain⟨us,rfl,hlen,nv⟩:=cG;refine⟨us,rfl,by rw[OR];exact hlen,fun j l au=>?_⟩;rw[OQ,b0]at au;obtain⟨c,ap,rfl⟩:=au;rw[dL];obtain⟨u,hu,cG⟩:=nv j c ap;have bm:j<100:=by
    have U:=fp.1 ez _ (fe kC);simp only[cW]at U;have:=(fA.1 ap).1;omega
   refine⟨u,hu,tp.sat cG fun k es post e=>?_⟩;rw[EM (args:=args) (vs:=vs) bm kC (k:=k) (es:=es) (post:=post) (by simp only[GA.cell,ap,e]),MX];simp[cellOf,Value.cells,eg,hu]
 rename_i hi;rw[Ak]at hp;split at hp
 ·rename_i bM;simp only[aT]at hp;subst hp;refine⟨undef,?_,ad⟩;rw[kU,bE (by omega),Array.getElem?_replicate,bU (by omega)]
 cases hp
end Go.Sx
namespace Go.Sx
open Go.RowKit
def ff.found(t:Nat):ff->Option aC->ff×hf
 | .ro d,_=>(.ro d,[])
 | .fM k es (some _),some (.J (.own s) cm cq)=>if s=t/\cm=k then (.fM k es (some cq),[(t,t)]) else (.fM k es none,[])
 | .fM k es _,_=>(.fM k es none,[])
def lY(i:Nat):Nat->List ff->List aC->List ff×hf
 | _,[],_=>([],[])
 | j,c::cs,ls=>((c.found (e4 i j) ls.head?).1::(lY i (j+1) cs ls.tail).1,(c.found (e4 i j) ls.head?).2++(lY i (j+1) cs ls.tail).2)
def GA.found(i:Nat):GA->aE->GA×hf
 | .one c,p=>(.one (c.found (e4 i 0) p.leaf).1,(c.found (e4 i 0) p.leaf).2)
 | .agg cs,.az (.agg ls)=>(.agg (lY i 0 cs ls).1,(lY i 0 cs ls).2)
 | .agg cs,_=>(.agg (lY i 0 cs []).1,(lY i 0 cs []).2)
def jZ:Nat->List GA->List aE->List GA×hf
 | _,[],_=>([],[])
 | i,a::as,ct=>((a.found i (ct.headD .cp)).1::(jZ (i+1) as ct.tail).1,(a.found i (ct.headD .cp)).2++(jZ (i+1) as ct.tail).2)
theorem ff.AT{t:Nat}{c:ff}{l:Option aC}{k:Nat}{es cq:List (List D)}(h:(c.found t l).1=.fM k es (some cq)):l=some (.J (.own t) k cq)/\(t,t)∈(c.found t l).2:=by
 unfold ff.found at h ⊢;split at h
 ·cases h
 ·rename_i dE du p s cm asz;split at h
  ·rename_i ap;obtain⟨rfl,rfl⟩:=ap;simp only[ff.fM.injEq,aT]at h;obtain⟨rfl,_,rfl⟩:=h;exact⟨rfl,by simp⟩
  cases h
 cases h
theorem Ib(i:Nat):∀{cs:List ff} {ls:List aC} {j x k:Nat} {es cq:List (List D)},(lY i j cs ls).1[x]?=some (.fM k es (some cq))->
  ls[x]?=some (.J (.own (e4 i (j+x))) k cq)/\(e4 i (j+x),e4 i (j+x))∈(lY i j cs ls).2
 | [],ls,j,x,k,es,cq,h=>by simp[lY]at h
 | c::cs,ls,j,0,k,es,cq,h=>by
  simp only[lY,kV,aT]at h;obtain⟨U,aa⟩:=ff.AT h;refine⟨by cases ls<;>simp_all,?_⟩;simp only[lY];exact hG _ aa
 | c::cs,ls,j,x+1,k,es,cq,h=>by
  simp only[lY,n7]at h;obtain⟨U,aa⟩:=Ib i h;rw[show j+1+x=j+(x+1) by omega]at U aa;refine⟨by cases ls<;>simp_all,?_⟩;simp only[lY];exact ig _ aa
def wB(j:Nat):bg->Option aC
 | .one l=>if j=0 then some l else none
 | .agg ls=>ls[j]?
theorem GA.AT{i j:Nat}{a:GA}{p:aE}{k:Nat}{es cq:List (List D)}(h:(a.found i p).1.cell j=some (.fM k es (some cq))):
  ∃az,p=.az az/\wB j az=some (.J (.own (e4 i j)) k cq)/\(e4 i j,e4 i j)∈(a.found i p).2:=by
 cases a with
 | one c=>
  simp only[GA.found,GA.cell]at h ⊢;split at h
  ·rename_i bm;subst bm;simp only[aT]at h;obtain⟨U,aa⟩:=ff.AT h;cases p with
   | ek as=>cases U
   | az a=>
    cases a with
    | agg ls=>cases U
    | one l=>
     simp only[aE.leaf,aT]at U;exact⟨_,rfl,by simp[wB,U],aa⟩
  cases h
 | agg cs=>
  have Nj:∀q:List ff×hf,q=lY i 0 cs []->q.1[j]?=some (.fM k es (some cq))->False:=by
   rintro q rfl h;have:=(Ib i h).1;simp at this
  cases p with
  | ek as=>exact (Nj _ rfl h).elim
  | az a=>
   cases a with
   | one l=>exact (Nj _ rfl h).elim
   | agg ls=>
    simp only[GA.found,GA.cell]at h ⊢;obtain⟨U,aa⟩:=Ib i h;rw[dL]at U aa;exact⟨_,rfl,by simp[wB,U],aa⟩
theorem OT:∀{as:List GA} {ct:List aE} {i x j:Nat} {a:GA} {k:Nat} {es cq:List (List D)},(jZ i as ct).1[x]?=some a->a.cell j=some (.fM k es (some cq))->
  ∃az,ct[x]?=some (.az az)/\wB j az=some (.J (.own (e4 (i+x) j)) k cq)/\(e4 (i+x) j,e4 (i+x) j)∈(jZ i as ct).2
 | [],ct,i,x,j,a,k,es,cq,h,_=>by simp[jZ]at h
 | b::as,ct,i,0,j,a,k,es,cq,h,ap=>by
  simp only[jZ,kV,aT]at h;subst h;obtain⟨az,U,aa,aA⟩:=GA.AT ap;refine⟨az,?_,aa,?_⟩
  ·cases ct with
   | nil=>
    simp only[List.headD_nil]at U;cases U;simp only[wB]at aa;split at aa<;>simp at aa
   | cons p ct=>simpa using U
  simp only[jZ];exact hG _ aA
 | b::as,ct,i,x+1,j,a,k,es,cq,h,ap=>by
  simp only[jZ,n7]at h;obtain⟨az,U,aa,aA⟩:=OT h ap;rw[show i+1+x=i+(x+1) by omega]at aa aA;refine⟨az,by cases ct<;>simp_all,aa,?_⟩;simp only[jZ];exact ig _ aA
def s7(P:Program)(st:aD)(iz:List ResultVar)(args:List GA)(hint:List cE):Option (List cE×List GA):=
 match iz.mapM (oZ P st) with
 | some ct=>
  match qg 0 ct hint with
  | some (ds,ts)=>if L6 args&&CN (ts++(jZ 0 args st.env).2) then some (ds,(jZ 0 args st.env).1) else none
  | none=>none
 | none=>none
theorem OU{P:Program}{f:FuncId}{fn:Func}{c:Code}{args:List GA}{rs:List cE}{ans cf:List b'}{obs:List Prop}{e:gQ}{st:aD}(b7:P.funcs[f]?=some fn)(aw:fn.body=some c)
  (fO:run P c (vT args fn.ntmps) ans=some (e,st,cf,obs)) (a6:cv obs) (he:e=.ret\/e=.normal) (eF:s7 P st fn.results.toList args rs=some (rs,args)):px P f args rs:=by
 intro w vs Ar k4 oG;unfold s7 at eF;split at eF
 ·rename_i ct qW;split at eF
  ·rename_i ds ts er;split at eF
   ·rename_i cG;simp only[aT,bq]at eF;obtain⟨rfl,VS⟩:=eF;rw[cJ]at cG;obtain⟨ez,cG⟩:=cG;refine calls_of_wp b7 aw (Code.wp_mono (fun e' cC aP hp=>?_) (lX c fO a6 _ _ w (ajC ez k4 oG fn.ntmps)));obtain⟨rfl,ω,τ,aW⟩:=hp;obtain⟨zs,U,aa,aA⟩:=CQ aW qW;obtain⟨aO,a8⟩:=CP (w:=aP) (ω:=ω) (τ:=τ) (ts:=ts++(jZ 0 args st.env).2) (fun t n h=>CO cG h) er (fun x ao=>hG _ ao);have hm:=BO (P:=P) _ fn.results aP _ U;have eI:∀(j:Nat) (d:cE),ds[j]?=some d->∃z,zs[j]?=some z/\kM aP (hz ω (ts++(jZ 0 args st.env).2)) j d z:=by
     intro j d aF;obtain⟨p,hp,qV⟩:=a8 j d aF;obtain⟨z,bk,q4⟩:=aA j p hp;exact⟨z,bk,by have:=qV z q4;rwa[dL]at this⟩
    have kH:zs.length=ds.length:=by omega
    have gV:∀v,(if h:zs.toArray.size=1 then zs.toArray[0] else .tuple zs.toArray)=v->lV aP (hz ω (ts++(jZ 0 args st.env).2)) ds v:=by
     intro v br;unfold lV;split
     ·rename_i cl;obtain⟨z,bk,ap⟩:=eI 0 cl rfl;have U:zs.length=1:=by rw[kH];rfl
      have pP:zs=[z]:=by
       match zs,U,bk with
       | [z0],_,bk=>simp at bk;rw[bk]
      have FR:v=z:=by
       rw[<-br];simp[pP]
      rw[FR];exact ap
     rename_i c1;have U:¬zs.toArray.size=1:=by
      intro h;simp at h;rw[kH]at h;obtain⟨d,aF⟩:=List.length_eq_one_iff.1 h;exact c1 d aF
     rw[dif_neg U]at br;exact⟨zs.toArray,br.symm,by simpa using kH,fun r cl aI=>by obtain⟨z,bk,ap⟩:=eI r cl aI;exact⟨z,by simpa using bk,ap⟩⟩
    have Ft:Kept aP (hz ω (ts++(jZ 0 args st.env).2)) args vs:=by
     intro i j eD k es cq kC ap;have VW:(jZ 0 args st.env).1[i]?=some eD:=by rw[VS];exact kC
     obtain⟨az,bG,b9,da⟩:=OT VW ap;rw[dL]at b9 da;obtain⟨v,br,aj⟩:=aW.env i _ bG;have ec:∃u,Sat aP ω τ (.J (.own (e4 i j)) k cq) u:=by
      cases az with
      | one l=>
       simp only[wB]at b9;split at b9
       ·simp only[aT]at b9;exact⟨v,b9▸aj⟩
       cases b9
      | agg ls=>
       obtain⟨us,_,_,hu⟩:=aj;obtain⟨u,_,dZ⟩:=hu j _ b9;exact⟨u,dZ⟩
     obtain⟨u,aI,bH⟩:=ec;have bm:j<100:=by
      cases eD with
      | one c=>simp only[GA.cell]at ap;split at ap<;>first | omega | cases ap
      | agg cs=>
       have U:=fp.1 ez _ (fe kC);simp only[cW]at U;have:=(fA.1 ap).1;omega
     have se:=aW.fixed (e4 i j) (by simp[e4]);have VY:=EM (args:=args) (vs:=vs) bm kC ap;have:u=cellOf (vs.getD i undef) j:=by
      have dZ:τ (e4 i j)=(k,u):=bH;rw[se]at dZ;have dw:xr args vs (e4 i j)=(k,u):=dZ;rw[VY]at dw;exact (Prod.mk.inj dw).2.symm
     subst this;refine aI.frame fun b q _ aM=>⟨?_,rfl⟩
     simp only[Tag.R]at aM ⊢;have:=CO cG (ig ts da);simp only[hz,aM,this]
    have dz:∃v,(results fn cC.tmps).run P aP=.ok v aP/\∃u,Ending.returned v=.returned u/\fX ⟨w,fun b=>Ar b≠.bz,fun _=>(0,undef)⟩ aP/\
      ∃a':Own,(∀b,b<w.heap.size->Ar b=.bz->a' b=.bz)/\(∀b,a' b≠.bz->(∃t q,a' b=.tok t q)/\∃arr ty,aP.heap[b]?=some (.cells arr ty (0,0)))/\Kept aP a' args vs/\lV aP a' ds u:=by
     refine⟨_,?_,_,rfl,⟨aW.below.os,aW.below.tape,aW.below.output,aW.below.size,aW.below.block,aW.below.drawn,aW.below.laid,aW.below.free⟩,hz ω (ts++(jZ 0 args st.env).2),fun b aw ay=>?_,fun b aw=>?_,Ft,gV _ rfl⟩
     ·rw[H6,Sem.run_bind,hm];rfl
     ·cases c8:ω b with
      | bz=>simp[hz,c8]
      | box id=>simp[hz,c8]
      | tok t q=>
       rcases (aW.owned b (by simp[c8])).1 with h | h
       ·exact absurd aw (by have h:w.heap.size<=b:=h;omega)
       exact absurd ay h
     cases c8:ω b with
     | bz=>simp[hz,c8]at aw
     | box id=>simp[hz,c8]at aw
     | tok t q=>
      refine⟨?_,(aW.owned b (by simp[c8])).2⟩;simp only[hz,c8]at aw ⊢;cases jd:(ts++(jZ 0 args st.env).2).at t with
      | none=>simp[jd]at aw
      | some n=>exact⟨n,q,rfl⟩
    obtain⟨v,bG,b9⟩:=dz;rcases he with rfl | rfl
    ·exact⟨aW.defers,v,bG,b9⟩
    exact⟨aW.defers,v,bG,b9⟩
   cases eF
  cases eF
 cases eF
def No(P:Program)(c:Code)(ntmps:Nat)(iz:List ResultVar)(args:List GA)(hint:List cE)(ans:List b'):Option (List cE×List GA×List Prop):=
 match run P c (vT args ntmps) ans with
 | some (.ret,st,_,obs)=>(s7 P st iz args hint).map fun rs=>(rs.1,rs.2,obs)
 | some (.normal,st,_,obs)=>(s7 P st iz args hint).map fun rs=>(rs.1,rs.2,obs)
 | _=>none
theorem px.of{P:Program}{f:FuncId}{fn:Func}{args:List GA}{rs:List cE}(ans:List b')(obs:List Prop)(b7:P.funcs[f]?=some fn)(aw:fn.body.isSome=true)
  (h:No P (mL fn) fn.ntmps fn.results.toList args rs ans=some (rs,args,obs)) (a6:cv obs):px P f args rs:=by
 obtain⟨c,ap⟩:=pq.1 aw;have xK:mL fn=c:=by simp[mL,ap]
 unfold No at h;rw[xK]at h;split at h
 ·rename_i st a ld aI;rw[b0]at h;obtain⟨⟨wU,KF⟩,U,h⟩:=h;simp only[bq]at h;obtain⟨rfl,rfl,rfl⟩:=h;exact OU b7 ap aI a6 (.inl rfl) U
 ·rename_i st a ld aI;rw[b0]at h;obtain⟨⟨wU,KF⟩,U,h⟩:=h;simp only[bq]at h;obtain⟨rfl,rfl,rfl⟩:=h;exact OU b7 ap aI a6 (.inr rfl) U
 cases h
end Go.Sx
namespace Go.Sx
open Go.RowKit
def gU(es:List (List Value)):List (List D):=es.map (·.map .v)
theorem B6(es:List (List Value)):(gU es).length=es.length:=by simp[gU]
variable{es:List (List Value)}
theorem OV{i j:Nat}{d:D}(h:cN (gU es) i j=some d):∃e v,es[i]?=some e/\e[j]?=some v/\d=.v v:=by
 unfold cN gU at h;rw[dk]at h;cases e1:es[i]? with
 | none=>simp[e1]at h
 | some e=>
  simp only[e1,rP,l8,dk,b0]at h;obtain⟨v,U,rfl⟩:=h;exact⟨e,v,rfl,U,rfl⟩
theorem EJ{i j:Nat}{e:List Value}{v:Value}(U:es[i]?=some e)(aa:e[j]?=some v):cN (gU es) i j=some (.v v):=by
 simp[cN,gU,U,aa]
structure Row (w:World) (b off k cap:Nat) (arr:Array Value) (ty:TypeId) (es:List (List Value)):Prop where
 heap:w.heap[b]?=some (.cells arr ty (0,0))
 room:es.length<=cap
 fit:off+cap*k<=arr.size
 len:∀e∈es,e.length=k
 one:∀e∈es,∀v∈e,v.oneCell'=true
 cell:∀i j e v,es[i]?=some e->e[j]?=some v->arr[off+i*k+j]?=some v
variable{w:World}{k:Nat}{ω:Own}
theorem Row.rep{b off cap:Nat}{arr:Array Value}{ty:TypeId}(h:Row w b off k cap arr ty es){R:List (Nat×Nat)->c4->Prop}(dz:R [] (ω b)):
  bS w ω R (.J k (gU es)) (.slice (some ⟨b,off,none⟩) es.length cap):=by
 have:=bS.row (w:=w) (ω:=ω) R k (gU es) b off cap arr ty (0,0) (fun i j=>arr.getD (off+i*k+j) undef) h.heap dz (by rw[B6];exact h.room) h.fit
  (by intro e he;simp only[gU,kX]at he;obtain⟨bD,bV,rfl⟩:=he;simpa using h.len bD bV)
  (by
   intro i j d aF;obtain⟨e,v,U,aa,rfl⟩:=OV aF;have:=h.cell i j e v U aa;simp[eg,this])
  (by
   intro i j d aF;obtain⟨e,v,U,aa,rfl⟩:=OV aF;have aA:=h.cell i j e v U aa;have:arr.getD (off+i*k+j) undef=v:=by simp[eg,aA]
   rw[this];exact .v _ _ (h.one e (fe U) v (fe aa)))
 rwa[B6]at this
theorem Ef.row{w:World}{ω:Own}(ay:Ef w ω){t:Nat}{y:Value}(h:bS w ω (Tag.own t).R (.J k (gU es)) y):
  (es=[]/\∃a,y=.slice a 0 0)\/∃b off cap arr ty,ω b=.tok t []/\y=.slice (some ⟨b,off,none⟩) es.length cap/\Row w b off k cap arr ty es:=by
 generalize aF:D.J k (gU es)=d at h;cases h with
 | nil R k a=>
  simp only[D.J.injEq]at aF;exact .inl ⟨by simpa[gU]using aF.2,a,rfl⟩
 | row R k cq b off cap arr ty cF us aw dz ap aj bc hu dX=>
  simp only[D.J.injEq]at aF;obtain⟨rfl,rfl⟩:=aF;simp only[Tag.R]at dz;obtain⟨_,cc,pi,aA⟩:=ay b (by rw[dz];simp);rw[aw]at aA;simp only[aT,Obj.cells.injEq]at aA;obtain⟨rfl,rfl,rfl⟩:=aA;refine .inr ⟨b,off,cap,arr,ty,dz,by rw[B6],aw,by rwa[B6]at ap,aj,fun e he=>?_,fun e he v br=>?_,fun i j e v U aa=>?_⟩
  ·have:=bc (e.map .v) (by simp only[gU,kX];exact⟨e,he,rfl⟩);simpa using this
  ·obtain⟨i,hi⟩:=pr.1 he;obtain⟨j,bm⟩:=pr.1 br;have:=dX i j (.v v) (EJ hi bm);generalize us i j=u at this;cases this with
   | v _ _ U=>exact U
  have aA:=hu i j (.v v) (EJ U aa);have aO:=dX i j (.v v) (EJ U aa);generalize us i j=u at aA aO;cases aO with
  | v=>exact aA
 | v=>cases aF
 | ptr=>cases aF
 | bI=>cases aF
structure Ej (w aP:World) (own:Nat->Prop) (k:Nat) (es:List (List Value)) (v:Value):Prop where
 U5:Au ⟨w,own,fun _=>(0,undef)⟩ aP
 row:(es=[]/\∃a,v=.slice a 0 0)\/∃b off cap arr ty,(own b\/w.heap.size<=b)/\v=.slice (some ⟨b,off,none⟩) es.length cap/\Row aP b off k cap arr ty es
theorem Ej.res{aP:World}{v:Value}(h:Ej w aP (fun b=>ω b≠.bz) k es v):
  ∃a':Own,(∀b,b<w.heap.size->ω b=.bz->a' b=.bz)/\(∀b,a' b≠.bz->(∃t q,a' b=.tok t q)/\∃arr ty,aP.heap[b]?=some (.cells arr ty (0,0)))/\lV aP a' [.one (.J k (gU es))] v:=by
 rcases h.row with⟨rfl,a,rfl⟩ | ⟨b,off,cap,arr,ty,a6,rfl,aI⟩
 ·exact⟨fun _=>.bz,fun _ _ _=>rfl,fun b aw=>absurd rfl aw,bS.nil _ k a⟩
 refine⟨fun c=>if c=b then .tok 0 [] else .bz,fun c ap he=>?_,fun c ap=>?_,?_⟩
 ·by_cases e:c=b
  ·subst e;rcases a6 with a6 | a6
   ·exact absurd he a6
   omega
  simp only[bE e]
 ·by_cases e:c=b
  ·subst e;exact⟨⟨0,[],by simp⟩,arr,ty,aI.heap⟩
  simp only[bE e]at ap;exact absurd rfl ap
 exact aI.rep (R:=(Tag.own 0).R) (by simp[Tag.R])
def D.KJ:D->Value
 | .v x=>x
 | _=>undef
variable{vs:Array Value}
theorem U2{a b:Value}(h:vs.size=2)(bV:vs[0]?=some a)(U:vs[1]?=some b):vs=#[a,b]:=by
 apply Array.ext
 ·simpa using h
 intro i hi _;have kD:i<2:=by omega
 match i,kD with
 | 0,_=>simpa[jI hi]using bV
 | 1,_=>simpa[jI hi]using U
theorem U3{a b c:Value}(h:vs.size=3)(bV:vs[0]?=some a)(U:vs[1]?=some b)(aa:vs[2]?=some c):vs=#[a,b,c]:=by
 apply Array.ext
 ·simpa using h
 intro i hi _;have kD:i<3:=by omega
 match i,kD with
 | 0,_=>simpa[jI hi]using bV
 | 1,_=>simpa[jI hi]using U
 | 2,_=>simpa[jI hi]using aa
theorem bS.AR{R:List (Nat×Nat)->c4->Prop}{x y:Value}(h:bS w ω R (.v x) y):y=x:=by
 cases h;rfl
theorem ajD{args:List GA}(h:∀(i j:Nat) (eD:GA) (k:Nat) (es cq:List (List D)),args[i]?=some eD->eD.cell j=some (.fM k es (some cq))->False):Kept w ω args vs:=
 fun i j eD k es cq U aa=>(h i j eD k es cq U aa).elim
@[simp] theorem setRow_drawn (w : World) (b : Nat) (cs : Array Value) : (w.setRow b cs).drawn = w.drawn := rfl
theorem ajE{own:Nat->Prop}{b:Nat}(aw:own b)(j8 UR:Array Value):Au ⟨w,own,fun _=>(0,undef)⟩ ((w.drew.setRow b j8).setRow b UR):=by
 refine⟨rfl,rfl,rfl,by simp,fun k bc ay=>?_,?_⟩
 ·have:k≠b:=fun e=>ay (by rw[e];exact aw)
  rw[setRow_other _ b k _ this,setRow_other _ b k _ this];rfl
 intro _;show w.drawn<=w.drawn+1;omega
