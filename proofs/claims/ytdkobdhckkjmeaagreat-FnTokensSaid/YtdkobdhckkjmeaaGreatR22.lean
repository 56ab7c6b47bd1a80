import Derived.Test.YtdkobdhckkjmeaaGreatR15
set_option linter.unusedVariables false
set_option linter.unusedSimpArgs false
namespace Go.Sx
open Go.RowKit
def GC.leaf(t:Nat):GC→Leaf
 | .ro d=>d.leaf .free
 | .gv k es _=>.sl (.own t) k es
def qee(i:Nat):Nat→List GC→List Leaf
 | _,[]=>[]
 | j,c::cs=>c.leaf (gTok i j)::qee i (j+1) cs
def GA.al(i:Nat):GA→AL
 | .one c=>.one (c.leaf (gTok i 0))
 | .agg cs=>.agg (qee i 0 cs)
def gEnv:Nat→List GA→List PV
 | _,[]=>[]
 | i,a::as=>.al (a.al i)::gEnv (i+1) as
def initG(args:List GA)(ntmps:Nat):St:=⟨gEnv 0 args++List.replicate (ntmps-args.length) .und,[]⟩
def GC.post:GC→Leaf→GC
 | .gv k es (some _),.sl (.own _) k' es'=>if k'=k then .gv k es (some es') else .gv k es none
 | .gv k es _,_=>.gv k es none
 | c,_=>c
def gFits(args:List GA):Bool:=args.all fun | .one _=>true | .agg cs=>decide (cs.length≤100)
def gK(args:List GA)(t:Nat):Nat:=
 match (args[(t-giv) / 100]?).bind (GA.cell ((t-giv) % 100)) with
 | some (.gv k _ _)=>k
 | _=>0
def gH(args:List GA)(vs:Array Value)(t:Nat):Nat×Value:=(gK args t,cellOf (vs.getD ((t-giv) / 100) undef) ((t-giv) % 100))
theorem gH_at{args:List GA}{vs:Array Value}{i j:Nat}(hj:j<100){ga:GA}(ha:args[i]?=some ga){k:Nat}{es:List (List D)}{post:Option (List (List D))}(hc:ga.cell j=some (.gv k es post)):
  gH args vs (gTok i j)=(k,cellOf (vs.getD i undef) j):=by
 have e1:(gTok i j-giv) / 100=i:=by simp only[gTok];omega
 have e2:(gTok i j-giv) % 100=j:=by simp only[gTok];omega
 simp only[gH,gK,e1,e2,ha,zan,hc]
theorem qpI(i:Nat):∀(cs:List GC) (j x:Nat),(qee i j cs)[x]?=(cs[x]?).map fun c=>c.leaf (gTok i (j+x))
 | [],j,x=>by simp[qee]
 | c::cs,j,0=>by simp[qee]
 | c::cs,j,x+1=>by
  simp only[qee,zaf,qpI i cs (j+1) x];rw[show j+1+x=j+(x+1) by omega]
theorem qpJ(i:Nat):∀(cs:List GC) (j:Nat),(qee i j cs).length=cs.length
 | [],_=>rfl
 | c::cs,j=>by simp[qee,qpJ i cs (j+1)]
theorem qpK:∀(as:List GA) (i x:Nat),(gEnv i as)[x]?=(as[x]?).map fun a=>.al (a.al (i+x))
 | [],i,x=>by simp[gEnv]
 | a::as,i,0=>by simp[gEnv]
 | a::as,i,x+1=>by
  simp only[gEnv,zaf,qpK as (i+1) x];rw[show i+1+x=i+(x+1) by omega]
theorem ql2:∀(as:List GA) (i:Nat),(gEnv i as).length=as.length
 | [],_=>rfl
 | a::as,i=>by simp[gEnv,ql2 as (i+1)]
theorem GcOk.sat{w:World}{ω:Own}{τ:Nat→Nat×Value}{t:Nat}{c:GC}{y:Value}(h:GcOk w ω t c y)(hτ:∀k es post,c=.gv k es post→τ t=(k,y)):Sat w ω τ (c.leaf t) y:=by
 cases c with
 | ro d=>exact D.leaf_sat (t:=.free) (p:=(0,0)) h
 | gv k es post=>exact⟨h,hτ k es post rfl⟩
theorem qvS{w:World}{ω:Own}{args:List GA}{vs:Array Value}(hfit:gFits args=true)(h:GasOk w ω args vs)(htd:Tidy w ω)(ntmps:Nat):
  Rel ⟨w,fun b=>ω b≠.imm,gH args vs⟩ (initG args ntmps) { tmps:=vs++Array.replicate (ntmps-vs.size) undef,defers:=[] } w:=by
 obtain⟨hg,hn,ha⟩:=h;refine⟨ω,gH args vs,rfl,by simp[initG,hn,ql2],Bel.start htd,fun b hb=>⟨.inr hb,(hg b hb).2⟩,fun _ _=>rfl,(fun id b _ hb=>by
  obtain⟨⟨t,q,e,_⟩,_⟩:=hg b (by rw[hb];simp);rw[hb]at e;cases e),?_,fun id ls hl=>by simp[initG,qap]at hl⟩
 intro i p hp;simp only[initG]at hp;rw[zT,ql2]at hp;split at hp
 ·rename_i hi;rw[qpK,zc]at hp;obtain⟨ga,hga,rfl⟩:=hp;rw[zv];obtain⟨v,hv,hok⟩:=ha i ga hga;have hi':i<vs.size:=by omega
  refine⟨v,by rw[zK,zp hi',hv],?_⟩;have hvi:vs.getD i undef=v:=by simp[zl,hv]
  cases ga with
  | one c=>
   refine GcOk.sat hok fun k es post hc=>?_
   have:=gH_at (args:=args) (vs:=vs) (i:=i) (j:=0) (by omega) hga (k:=k) (es:=es) (post:=post) (by simp[GA.cell,hc]);rw[this,hvi];subst hc;have hr:Rep w ω (Tag.own (gTok i 0)).R (.sl k es) v:=hok;obtain⟨b,c,rfl⟩:=hr.len;rfl
  | agg cs=>
   obtain⟨us,rfl,hlen,hcs⟩:=hok;refine⟨us,rfl,by rw[qpJ];exact hlen,fun j l hl=>?_⟩;rw[qpI,zc]at hl;obtain⟨c,hc,rfl⟩:=hl;rw[zv];obtain⟨u,hu,hok⟩:=hcs j c hc;have hj:j<100:=by
    have h1:=zM.1 hfit _ (zw hga);simp only[zi]at h1;have:=(zk.1 hc).1;omega
   refine⟨u,hu,GcOk.sat hok fun k es post e=>?_⟩;rw[gH_at (args:=args) (vs:=vs) hj hga (k:=k) (es:=es) (post:=post) (by simp only[GA.cell,hc,e]),hvi];simp[cellOf,Value.cells,zl,hu]
 ·rename_i hi;rw[zbo]at hp;split at hp
  ·rename_i hlt;simp only[za]at hp;subst hp;refine⟨undef,?_,trivial⟩;rw[zK,zo (by omega),Array.getElem?_replicate,zp (by omega)]
  ·cases hp
end Go.Sx
namespace Go.Sx
open Go.RowKit
def GC.found(t:Nat):GC→Option Leaf→GC×Toks
 | .ro d,_=>(.ro d,[])
 | .gv k es (some _),some (.sl (.own s) k' es')=>if s=t∧k'=k then (.gv k es (some es'),[(t,t)]) else (.gv k es none,[])
 | .gv k es _,_=>(.gv k es none,[])
def qcx(i:Nat):Nat→List GC→List Leaf→List GC×Toks
 | _,[],_=>([],[])
 | j,c::cs,ls=>((c.found (gTok i j) ls.head?).1::(qcx i (j+1) cs ls.tail).1,(c.found (gTok i j) ls.head?).2++(qcx i (j+1) cs ls.tail).2)
def GA.found(i:Nat):GA→PV→GA×Toks
 | .one c,p=>(.one (c.found (gTok i 0) p.leaf).1,(c.found (gTok i 0) p.leaf).2)
 | .agg cs,.al (.agg ls)=>(.agg (qcx i 0 cs ls).1,(qcx i 0 cs ls).2)
 | .agg cs,_=>(.agg (qcx i 0 cs []).1,(qcx i 0 cs []).2)
def qbR:Nat→List GA→List PV→List GA×Toks
 | _,[],_=>([],[])
 | i,a::as,ps=>((a.found i (ps.headD .und)).1::(qbR (i+1) as ps.tail).1,(a.found i (ps.headD .und)).2++(qbR (i+1) as ps.tail).2)
theorem GC.found_ok{t:Nat}{c:GC}{l:Option Leaf}{k:Nat}{es es':List (List D)}(h:(c.found t l).1=.gv k es (some es')):l=some (.sl (.own t) k es')∧(t,t)∈(c.found t l).2:=by
 unfold GC.found at h ⊢;split at h
 ·cases h
 ·rename_i k0 es0 p s k' es1;split at h
  ·rename_i hc;obtain⟨rfl,rfl⟩:=hc;simp only[GC.gv.injEq,za]at h;obtain⟨rfl,_,rfl⟩:=h;exact⟨rfl,by simp⟩
  ·cases h
 ·cases h
theorem ql3(i:Nat):∀{cs:List GC} {ls:List Leaf} {j x k:Nat} {es es':List (List D)},(qcx i j cs ls).1[x]?=some (.gv k es (some es'))→
  ls[x]?=some (.sl (.own (gTok i (j+x))) k es')∧(gTok i (j+x),gTok i (j+x))∈(qcx i j cs ls).2
 | [],ls,j,x,k,es,es',h=>by simp[qcx]at h
 | c::cs,ls,j,0,k,es,es',h=>by
  simp only[qcx,zag,za]at h;obtain⟨h1,h2⟩:=GC.found_ok h;refine⟨by cases ls<;>simp_all,?_⟩;simp only[qcx];exact zI _ h2
 | c::cs,ls,j,x+1,k,es,es',h=>by
  simp only[qcx,zaf]at h;obtain⟨h1,h2⟩:=ql3 i h;rw[show j+1+x=j+(x+1) by omega]at h1 h2;refine⟨by cases ls<;>simp_all,?_⟩;simp only[qcx];exact zJ _ h2
def qgd(j:Nat):AL→Option Leaf
 | .one l=>if j=0 then some l else none
 | .agg ls=>ls[j]?
theorem GA.found_ok{i j:Nat}{a:GA}{p:PV}{k:Nat}{es es':List (List D)}(h:(a.found i p).1.cell j=some (.gv k es (some es'))):
  ∃al,p=.al al∧qgd j al=some (.sl (.own (gTok i j)) k es')∧(gTok i j,gTok i j)∈(a.found i p).2:=by
 cases a with
 | one c=>
  simp only[GA.found,GA.cell]at h ⊢;split at h
  ·rename_i hj;subst hj;simp only[za]at h;obtain⟨h1,h2⟩:=GC.found_ok h;cases p with
   | tup as=>cases h1
   | al a=>
    cases a with
    | agg ls=>cases h1
    | one l=>
     simp only[PV.leaf,za]at h1;exact⟨_,rfl,by simp[qgd,h1],h2⟩
  ·cases h
 | agg cs=>
  have none_case:∀q:List GC×Toks,q=qcx i 0 cs []→q.1[j]?=some (.gv k es (some es'))→False:=by
   rintro q rfl h;have:=(ql3 i h).1;simp at this
  cases p with
  | tup as=>exact (none_case _ rfl h).elim
  | al a=>
   cases a with
   | one l=>exact (none_case _ rfl h).elim
   | agg ls=>
    simp only[GA.found,GA.cell]at h ⊢;obtain⟨h1,h2⟩:=ql3 i h;rw[zv]at h1 h2;exact⟨_,rfl,by simp[qgd,h1],h2⟩
theorem qpL:∀{as:List GA} {ps:List PV} {i x j:Nat} {a:GA} {k:Nat} {es es':List (List D)},(qbR i as ps).1[x]?=some a→a.cell j=some (.gv k es (some es'))→
  ∃al,ps[x]?=some (.al al)∧qgd j al=some (.sl (.own (gTok (i+x) j)) k es')∧(gTok (i+x) j,gTok (i+x) j)∈(qbR i as ps).2
 | [],ps,i,x,j,a,k,es,es',h,_=>by simp[qbR]at h
 | b::as,ps,i,0,j,a,k,es,es',h,hc=>by
  simp only[qbR,zag,za]at h;subst h;obtain⟨al,h1,h2,h3⟩:=GA.found_ok hc;refine⟨al,?_,h2,?_⟩
  ·cases ps with
   | nil=>
    simp only[List.headD_nil]at h1;cases h1;simp only[qgd]at h2;split at h2<;>simp at h2
   | cons p ps=>simpa using h1
  ·simp only[qbR];exact zI _ h3
 | b::as,ps,i,x+1,j,a,k,es,es',h,hc=>by
  simp only[qbR,zaf]at h;obtain⟨al,h1,h2,h3⟩:=qpL h hc;rw[show i+1+x=i+(x+1) by omega]at h2 h3;refine⟨al,by cases ps<;>simp_all,h2,?_⟩;simp only[qbR];exact zJ _ h3
def resG(P:Program)(st:St)(rv:List ResultVar)(args:List GA)(hint:List AD):Option (List AD×List GA):=
 match rv.mapM (qc6 P st) with
 | some ps=>
  match resPs 0 ps hint with
  | some (ds,ts)=>if gFits args&&qjd (ts++(qbR 0 args st.env).2) then some (ds,(qbR 0 args st.env).1) else none
  | none=>none
 | none=>none
theorem qpM{P:Program}{f:FuncId}{fn:Func}{c:Code}{args:List GA}{rs:List AD}{ans ans':List Ans}{obs:List Prop}{e:Ex}{st:St}(hf:P.funcs[f]?=some fn)(hb:fn.body=some c)
  (hrun:run P c (initG args fn.ntmps) ans=some (e,st,ans',obs)) (ho:Obs obs) (he:e=.ret∨e=.normal) (hres:resG P st fn.results.toList args rs=some (rs,args)):RetG P f args rs:=by
 intro w vs ωg hargs htd;unfold resG at hres;split at hres
 ·rename_i ps hps;split at hres
  ·rename_i ds ts hds;split at hres
   ·rename_i hok;simp only[za,zd]at hres;obtain⟨rfl,hfound⟩:=hres;rw[zj]at hok;obtain⟨hfit,hok⟩:=hok;refine calls_of_wp hf hb (Code.wp_mono (fun e' a' w' hp=>?_) (qcv c hrun ho _ _ w (qvS hfit hargs htd fn.ntmps)));obtain⟨rfl,ω,τ,hrel⟩:=hp;obtain⟨zs,h1,h2,h3⟩:=qjg hrel hps;obtain⟨h4,h5⟩:=qjf (w:=w') (ω:=ω) (τ:=τ) (ts:=ts++(qbR 0 args st.env).2) (fun t n h=>qje hok h) hds (fun x hx=>zI _ hx);have hm:=qiD (P:=P) _ fn.results w' _ h1;have hcell:∀(j:Nat) (d:AD),ds[j]?=some d→∃z,zs[j]?=some z∧qb4 w' (qbn ω (ts++(qbR 0 args st.env).2)) j d z:=by
     intro j d hd;obtain⟨p,hp,hp2⟩:=h5 j d hd;obtain⟨z,hz,hz2⟩:=h3 j p hp;exact⟨z,hz,by have:=hp2 z hz2;rwa[zv]at this⟩
    have hzl:zs.length=ds.length:=by omega
    have hall:∀v,(if h:zs.toArray.size=1 then zs.toArray[0] else .tuple zs.toArray)=v→qcf w' (qbn ω (ts++(qbR 0 args st.env).2)) ds v:=by
     intro v hv;unfold qcf;split
     ·rename_i ad;obtain⟨z,hz,hc⟩:=hcell 0 ad rfl;have h1:zs.length=1:=by rw[hzl];rfl
      have hz0:zs=[z]:=by
       match zs,h1,hz with
       | [z0],_,hz=>simp at hz;rw[hz]
      have hvz:v=z:=by
       rw[←hv];simp[hz0]
      rw[hvz];exact hc
     ·rename_i hne;have h1:¬zs.toArray.size=1:=by
       intro h;simp at h;rw[hzl]at h;obtain⟨d,hd⟩:=List.length_eq_one_iff.1 h;exact hne d hd
      rw[dif_neg h1]at hv;exact⟨zs.toArray,hv.symm,by simpa using hzl,fun r ad hr=>by obtain⟨z,hz,hc⟩:=hcell r ad hr;exact⟨z,by simpa using hz,hc⟩⟩
    have hkept:Kept w' (qbn ω (ts++(qbR 0 args st.env).2)) args vs:=by
     intro i j ga k es es' hga hc;have hga':(qbR 0 args st.env).1[i]?=some ga:=by rw[hfound];exact hga
     obtain⟨al,h6,h7,h8⟩:=qpL hga' hc;rw[zv]at h7 h8;obtain⟨v,hv,hs⟩:=hrel.env i _ h6;have hsat:∃u,Sat w' ω τ (.sl (.own (gTok i j)) k es') u:=by
      cases al with
      | one l=>
       simp only[qgd]at h7;split at h7
       ·simp only[za]at h7;exact⟨v,h7▸hs⟩
       ·cases h7
      | agg ls=>
       obtain⟨us,_,_,hu⟩:=hs;obtain⟨u,_,h9⟩:=hu j _ h7;exact⟨u,h9⟩
     obtain⟨u,hr,hh⟩:=hsat;have hj:j<100:=by
      cases ga with
      | one c=>simp only[GA.cell]at hc;split at hc<;>first | omega | cases hc
      | agg cs=>
       have h1:=zM.1 hfit _ (zw hga);simp only[zi]at h1;have:=(zk.1 hc).1;omega
     have hfix:=hrel.fixed (gTok i j) (by simp[gTok]);have hgh:=gH_at (args:=args) (vs:=vs) hj hga hc;have:u=cellOf (vs.getD i undef) j:=by
      have h9:τ (gTok i j)=(k,u):=hh;rw[hfix]at h9;have h10:gH args vs (gTok i j)=(k,u):=h9;rw[hgh]at h10;exact (Prod.mk.inj h10).2.symm
     subst this;refine hr.frame fun b q _ hq=>⟨?_,rfl⟩
     simp only[Tag.R]at hq ⊢;have:=qje hok (zJ ts h8);simp only[qbn,hq,this]
    have hR:∃v,(results fn a'.tmps).run P w'=.ok v w'∧∃u,Ending.returned v=.returned u∧Bel ⟨w,fun b=>ωg b≠.imm,fun _=>(0,undef)⟩ w'∧
      ∃ω':Own,(∀b,b<w.heap.size→ωg b=.imm→ω' b=.imm)∧(∀b,ω' b≠.imm→(∃t q,ω' b=.tok t q)∧∃arr ty,w'.heap[b]?=some (.cells arr ty (0,0)))∧Kept w' ω' args vs∧qcf w' ω' ds u:=by
     refine⟨_,?_,_,rfl,⟨hrel.below.os,hrel.below.tape,hrel.below.output,hrel.below.size,hrel.below.block,hrel.below.drawn,hrel.below.laid,hrel.below.free⟩,qbn ω (ts++(qbR 0 args st.env).2),fun b hb hg=>?_,fun b hb=>?_,hkept,hall _ rfl⟩
     ·rw[qlU,Sem.run_bind,hm];rfl
     ·cases hω:ω b with
      | imm=>simp[qbn,hω]
      | box id=>simp[qbn,hω]
      | tok t q=>
       rcases (hrel.owned b (by simp[hω])).1 with h | h
       ·exact absurd hb (by have h:w.heap.size≤b:=h;omega)
       ·exact absurd hg h
     ·cases hω:ω b with
      | imm=>simp[qbn,hω]at hb
      | box id=>simp[qbn,hω]at hb
      | tok t q=>
       refine⟨?_,(hrel.owned b (by simp[hω])).2⟩;simp only[qbn,hω]at hb ⊢;cases hts:(ts++(qbR 0 args st.env).2).at t with
       | none=>simp[hts]at hb
       | some n=>exact⟨n,q,rfl⟩
    obtain⟨v,h6,h7⟩:=hR;rcases he with rfl | rfl
    ·exact⟨hrel.defers,v,h6,h7⟩
    ·exact⟨hrel.defers,v,h6,h7⟩
   ·cases hres
  ·cases hres
 ·cases hres
def outG(P:Program)(c:Code)(ntmps:Nat)(rv:List ResultVar)(args:List GA)(hint:List AD)(ans:List Ans):Option (List AD×List GA×List Prop):=
 match run P c (initG args ntmps) ans with
 | some (.ret,st,_,obs)=>(resG P st rv args hint).map fun rs=>(rs.1,rs.2,obs)
 | some (.normal,st,_,obs)=>(resG P st rv args hint).map fun rs=>(rs.1,rs.2,obs)
 | _=>none
theorem RetG.of{P:Program}{f:FuncId}{fn:Func}{args:List GA}{rs:List AD}(ans:List Ans)(obs:List Prop)(hf:P.funcs[f]?=some fn)(hb:fn.body.isSome=true)
  (h:outG P (qcw fn) fn.ntmps fn.results.toList args rs ans=some (rs,args,obs)) (ho:Obs obs):RetG P f args rs:=by
 obtain⟨c,hc⟩:=zaj.1 hb;have hcode:qcw fn=c:=by simp[qcw,hc]
 unfold outG at h;rw[hcode]at h;split at h
 ·rename_i st a obs' hr;rw[zc]at h;obtain⟨⟨rs1,rs2⟩,h1,h⟩:=h;simp only[zd]at h;obtain⟨rfl,rfl,rfl⟩:=h;exact qpM hf hc hr ho (.inl rfl) h1
 ·rename_i st a obs' hr;rw[zc]at h;obtain⟨⟨rs1,rs2⟩,h1,h⟩:=h;simp only[zd]at h;obtain⟨rfl,rfl,rfl⟩:=h;exact qpM hf hc hr ho (.inr rfl) h1
 ·cases h
end Go.Sx
namespace Go.Sx
open Go.RowKit
def fl(es:List (List Value)):List (List D):=es.map (·.map .v)
theorem qjy(es:List (List Value)):(fl es).length=es.length:=by simp[fl]
theorem qqB{es:List (List Value)}{i j:Nat}{d:D}(h:qan (fl es) i j=some d):∃e v,es[i]?=some e∧e[j]?=some v∧d=.v v:=by
 unfold qan fl at h;rw[zr]at h;cases e1:es[i]? with
 | none=>simp[e1]at h
 | some e=>
  simp only[e1,zaw,zan,zr,zc]at h;obtain⟨v,h1,rfl⟩:=h;exact⟨e,v,rfl,h1,rfl⟩
theorem fl_at{es:List (List Value)}{i j:Nat}{e:List Value}{v:Value}(h1:es[i]?=some e)(h2:e[j]?=some v):qan (fl es) i j=some (.v v):=by
 simp[qan,fl,h1,h2]
structure Row (w:World) (b off k cap:Nat) (arr:Array Value) (ty:TypeId) (es:List (List Value)):Prop where
 heap:w.heap[b]?=some (.cells arr ty (0,0))
 room:es.length≤cap
 fit:off+cap*k≤arr.size
 len:∀e∈es,e.length=k
 one:∀e∈es,∀v∈e,v.oneCell'=true
 cell:∀i j e v,es[i]?=some e→e[j]?=some v→arr[off+i*k+j]?=some v
theorem Row.rep{w:World}{b off k cap:Nat}{arr:Array Value}{ty:TypeId}{es:List (List Value)}(h:Row w b off k cap arr ty es){ω:Own}{R:List (Nat×Nat)→Owner→Prop}(hR:R [] (ω b)):
  Rep w ω R (.sl k (fl es)) (.slice (some ⟨b,off,none⟩) es.length cap):=by
 have:=Rep.row (w:=w) (ω:=ω) R k (fl es) b off cap arr ty (0,0) (fun i j=>arr.getD (off+i*k+j) undef) h.heap hR (by rw[qjy];exact h.room) h.fit
  (by intro e he;simp only[fl,zbm]at he;obtain⟨e0,h0,rfl⟩:=he;simpa using h.len e0 h0)
  (by
   intro i j d hd;obtain⟨e,v,h1,h2,rfl⟩:=qqB hd;have:=h.cell i j e v h1 h2;simp[zl,this])
  (by
   intro i j d hd;obtain⟨e,v,h1,h2,rfl⟩:=qqB hd;have h3:=h.cell i j e v h1 h2;have:arr.getD (off+i*k+j) undef=v:=by simp[zl,h3]
   rw[this];exact .v _ _ (h.one e (zw h1) v (zw h2)))
 rwa[qjy]at this
theorem Given.row{w:World}{ω:Own}(hg:Given w ω){t k:Nat}{es:List (List Value)}{y:Value}(h:Rep w ω (Tag.own t).R (.sl k (fl es)) y):
  (es=[]∧∃a,y=.slice a 0 0)∨∃b off cap arr ty,ω b=.tok t []∧y=.slice (some ⟨b,off,none⟩) es.length cap∧Row w b off k cap arr ty es:=by
 generalize hd:D.sl k (fl es)=d at h;cases h with
 | nil R k a=>
  simp only[D.sl.injEq]at hd;exact .inl ⟨by simpa[fl]using hd.2,a,rfl⟩
 | row R k es' b off cap arr ty fr us hb hR hc hs hk hu hd'=>
  simp only[D.sl.injEq]at hd;obtain⟨rfl,rfl⟩:=hd;simp only[Tag.R]at hR;obtain⟨_,arr',ty',h3⟩:=hg b (by rw[hR];simp);rw[hb]at h3;simp only[za,Obj.cells.injEq]at h3;obtain⟨rfl,rfl,rfl⟩:=h3;refine .inr ⟨b,off,cap,arr,ty,hR,by rw[qjy],hb,by rwa[qjy]at hc,hs,fun e he=>?_,fun e he v hv=>?_,fun i j e v h1 h2=>?_⟩
  ·have:=hk (e.map .v) (by simp only[fl,zbm];exact⟨e,he,rfl⟩);simpa using this
  ·obtain⟨i,hi⟩:=zak.1 he;obtain⟨j,hj⟩:=zak.1 hv;have:=hd' i j (.v v) (fl_at hi hj);generalize us i j=u at this;cases this with
   | v _ _ h1=>exact h1
  ·have h3:=hu i j (.v v) (fl_at h1 h2);have h4:=hd' i j (.v v) (fl_at h1 h2);generalize us i j=u at h3 h4;cases h4 with
   | v=>exact h3
 | v=>cases hd
 | ptr=>cases hd
 | cl=>cases hd
structure LeftRow (w w':World) (own:Nat→Prop) (k:Nat) (es:List (List Value)) (v:Value):Prop where
 bel:Bel0 ⟨w,own,fun _=>(0,undef)⟩ w'
 row:(es=[]∧∃a,v=.slice a 0 0)∨∃b off cap arr ty,(own b∨w.heap.size≤b)∧v=.slice (some ⟨b,off,none⟩) es.length cap∧Row w' b off k cap arr ty es
theorem LeftRow.res{w w':World}{ω:Own}{k:Nat}{es:List (List Value)}{v:Value}(h:LeftRow w w' (fun b=>ω b≠.imm) k es v):
  ∃ω':Own,(∀b,b<w.heap.size→ω b=.imm→ω' b=.imm)∧(∀b,ω' b≠.imm→(∃t q,ω' b=.tok t q)∧∃arr ty,w'.heap[b]?=some (.cells arr ty (0,0)))∧qcf w' ω' [.one (.sl k (fl es))] v:=by
 rcases h.row with⟨rfl,a,rfl⟩ | ⟨b,off,cap,arr,ty,ho,rfl,hr⟩
 ·exact⟨fun _=>.imm,fun _ _ _=>rfl,fun b hb=>absurd rfl hb,Rep.nil _ k a⟩
 ·refine⟨fun c=>if c=b then .tok 0 [] else .imm,fun c hc he=>?_,fun c hc=>?_,?_⟩
  ·by_cases e:c=b
   ·subst e;rcases ho with ho | ho
    ·exact absurd he ho
    ·omega
   ·simp only[zo e]
  ·by_cases e:c=b
   ·subst e;exact⟨⟨0,[],by simp⟩,arr,ty,hr.heap⟩
   ·simp only[zo e]at hc;exact absurd rfl hc
  ·exact hr.rep (R:=(Tag.own 0).R) (by simp[Tag.R])
def D.unV:D→Value
 | .v x=>x
 | _=>undef
theorem args2{vs:Array Value}{a b:Value}(h:vs.size=2)(h0:vs[0]?=some a)(h1:vs[1]?=some b):vs=#[a,b]:=by
 apply Array.ext
 ·simpa using h
 ·intro i hi _;have hi':i<2:=by omega
  match i,hi' with
  | 0,_=>simpa[zD hi]using h0
  | 1,_=>simpa[zD hi]using h1
theorem args3{vs:Array Value}{a b c:Value}(h:vs.size=3)(h0:vs[0]?=some a)(h1:vs[1]?=some b)(h2:vs[2]?=some c):vs=#[a,b,c]:=by
 apply Array.ext
 ·simpa using h
 ·intro i hi _;have hi':i<3:=by omega
  match i,hi' with
  | 0,_=>simpa[zD hi]using h0
  | 1,_=>simpa[zD hi]using h1
  | 2,_=>simpa[zD hi]using h2
theorem Rep.eq_v{w:World}{ω:Own}{R:List (Nat×Nat)→Owner→Prop}{x y:Value}(h:Rep w ω R (.v x) y):y=x:=by
 cases h;rfl
theorem qqC{w:World}{ω:Own}{args:List GA}{vs:Array Value}(h:∀(i j:Nat) (ga:GA) (k:Nat) (es es':List (List D)),args[i]?=some ga→ga.cell j=some (.gv k es (some es'))→False):Kept w ω args vs:=
 fun i j ga k es es' h1 h2=>(h i j ga k es es' h1 h2).elim
@[simp] theorem setRow_drawn (w : World) (b : Nat) (cs : Array Value) : (w.setRow b cs).drawn = w.drawn := rfl
theorem qqD{w:World}{own:Nat→Prop}{b:Nat}(hb:own b)(A1 A2:Array Value):Bel0 ⟨w,own,fun _=>(0,undef)⟩ ((w.drew.setRow b A1).setRow b A2):=by
 refine⟨rfl,rfl,rfl,by simp,fun k hk hg=>?_,?_⟩
 ·have:k≠b:=fun e=>hg (by rw[e];exact hb)
  rw[setRow_other _ b k _ this,setRow_other _ b k _ this];rfl
 ·intro _;show w.drawn≤w.drawn+1;omega
