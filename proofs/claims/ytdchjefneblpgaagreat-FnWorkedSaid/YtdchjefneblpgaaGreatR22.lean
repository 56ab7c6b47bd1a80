import Derived.Test.YtdchjefneblpgaaGreatR15
set_option linter.unusedVariables false
set_option linter.unusedSimpArgs false
namespace Go.Sx
open Go.RowKit
def eC.leaf(t:Nat):eC->az
 | .ro d=>d.leaf .free
 | .eV k es _=>.J (.own t) k es
def tc(i:Nat):Nat->List eC->List az
 | _,[]=>[]
 | j,c::cs=>c.leaf (e4 i j)::tc i (j+1) cs
def GA.aF(i:Nat):GA->bm
 | .one c=>.one (c.leaf (e4 i 0))
 | .agg cs=>.agg (tc i 0 cs)
def sq:Nat->List GA->List aE
 | _,[]=>[]
 | i,a::as=>.aF (a.aF i)::sq (i+1) as
def wj(args:List GA)(ntmps:Nat):aD:=⟨sq 0 args++List.replicate (ntmps-args.length) .ck,[]⟩
def eC.post:eC->az->eC
 | .eV k es (some _),.J (.own _) ci cm=>if ci=k then .eV k es (some cm) else .eV k es none
 | .eV k es _,_=>.eV k es none
 | c,_=>c
def MD(args:List GA):Bool:=args.all fun | .one _=>true | .agg cs=>decide (cs.length<=100)
def ME(args:List GA)(t:Nat):Nat:=
 match (args[(t-cX) / 100]?).bind (GA.cell ((t-cX) % 100)) with
 | some (.eV k _ _)=>k
 | _=>0
def xW(args:List GA)(vs:Array Value)(t:Nat):Nat×Value:=(ME args t,cellOf (vs.getD ((t-cX) / 100) undef) ((t-cX) % 100))
theorem Fj{args:List GA}{vs:Array Value}{i j:Nat}(bg:j<100){eF:GA}(ag:args[i]?=some eF){k:Nat}{es:List (List D)}{post:Option (List (List D))}(al:eF.cell j=some (.eV k es post)):
  xW args vs (e4 i j)=(k,cellOf (vs.getD i undef) j):=by
 have e1:(e4 i j-cX) / 100=i:=by simp only[e4];omega
 have e2:(e4 i j-cX) % 100=j:=by simp only[e4];omega
 simp only[xW,ME,e1,e2,ag,oy,al]
theorem Pu(i:Nat):∀(cs:List eC) (j x:Nat),(tc i j cs)[x]?=(cs[x]?).map fun c=>c.leaf (e4 i (j+x))
 | [],j,x=>by simp[tc]
 | c::cs,j,0=>by simp[tc]
 | c::cs,j,x+1=>by
  simp only[tc,nE,Pu i cs (j+1) x];rw[show j+1+x=j+(x+1) by omega]
theorem Pv(i:Nat):∀(cs:List eC) (j:Nat),(tc i j cs).length=cs.length
 | [],_=>rfl
 | c::cs,j=>by simp[tc,Pv i cs (j+1)]
theorem Pw:∀(as:List GA) (i x:Nat),(sq i as)[x]?=(as[x]?).map fun a=>.aF (a.aF (i+x))
 | [],i,x=>by simp[sq]
 | a::as,i,0=>by simp[sq]
 | a::as,i,x+1=>by
  simp only[sq,nE,Pw as (i+1) x];rw[show i+1+x=i+(x+1) by omega]
theorem IG:∀(as:List GA) (i:Nat),(sq i as).length=as.length
 | [],_=>rfl
 | a::as,i=>by simp[sq,IG as (i+1)]
theorem tO.sat{w:World}{ω:Own}{τ:Nat->Nat×Value}{t:Nat}{c:eC}{y:Value}(h:tO w ω t c y)(ru:∀k es post,c=.eV k es post->τ t=(k,y)):Sat w ω τ (c.leaf t) y:=by
 cases c with
 | ro d=>exact D.du (t:=.free) (p:=(0,0)) h
 | eV k es post=>exact⟨h,ru k es post rfl⟩
theorem akh{w:World}{ω:Own}{args:List GA}{vs:Array Value}(dX:MD args=true)(h:EV w ω args vs)(o8:Tidy w ω)(ntmps:Nat):
  Rel ⟨w,fun b=>ω b≠.bt,xW args vs⟩ (wj args ntmps) { tmps:=vs++Array.replicate (ntmps-vs.size) undef,defers:=[] } w:=by
 obtain⟨av,a8,ag⟩:=h;refine⟨ω,xW args vs,rfl,by simp[wj,a8,IG],fO.start o8,fun b aw=>⟨.inr aw,(av b aw).2⟩,fun _ _=>rfl,(fun id b _ aw=>by
  obtain⟨⟨t,q,e,_⟩,_⟩:=av b (by rw[aw];simp);rw[aw]at e;cases e),?_,fun id ls ap=>by simp[wj,df]at ap⟩
 intro i p hp;simp only[wj]at hp;rw[ow,IG]at hp;split at hp
 ·rename_i hi;rw[Pw,bX]at hp;obtain⟨eF,kV,rfl⟩:=hp;rw[dF];obtain⟨v,bz,cJ⟩:=ag i eF kV;have nX:i<vs.size:=by omega
  refine⟨v,by rw[iD,bM nX,bz],?_⟩;have Ny:vs.getD i undef=v:=by simp[ep,bz]
  cases eF with
  | one c=>
   refine tO.sat cJ fun k es post al=>?_
   have:=Fj (args:=args) (vs:=vs) (i:=i) (j:=0) (by omega) kV (k:=k) (es:=es) (post:=post) (by simp[GA.cell,al]);rw[this,Ny];subst al;have aH:bQ w ω (Tag.own (e4 i 0)).R (.J k es) v:=cJ;obtain⟨b,c,rfl⟩:=aH.len;rfl
  | agg cs=>
   obtain⟨us,rfl,hlen,nV⟩:=cJ;refine⟨us,rfl,by rw[Pv];exact hlen,fun j l ap=>?_⟩;rw[Pu,bX]at ap;obtain⟨c,al,rfl⟩:=ap;rw[dF];obtain⟨u,hu,cJ⟩:=nV j c al;have bg:j<100:=by
    have h1:=fx.1 dX _ (fl kV);simp only[cU]at h1;have:=(fy.1 al).1;omega
   refine⟨u,hu,tO.sat cJ fun k es post e=>?_⟩;rw[Fj (args:=args) (vs:=vs) bg kV (k:=k) (es:=es) (post:=post) (by simp only[GA.cell,al,e]),Ny];simp[cellOf,Value.cells,ep,hu]
 rename_i hi;rw[A1]at hp;split at hp
 ·rename_i bJ;simp only[aS]at hp;subst hp;refine⟨undef,?_,aa⟩;rw[iD,bG (by omega),Array.getElem?_replicate,bM (by omega)]
 cases hp
end Go.Sx
namespace Go.Sx
open Go.RowKit
def eC.found(t:Nat):eC->Option az->eC×hj
 | .ro d,_=>(.ro d,[])
 | .eV k es (some _),some (.J (.own s) ci cm)=>if s=t/\ci=k then (.eV k es (some cm),[(t,t)]) else (.eV k es none,[])
 | .eV k es _,_=>(.eV k es none,[])
def mi(i:Nat):Nat->List eC->List az->List eC×hj
 | _,[],_=>([],[])
 | j,c::cs,ls=>((c.found (e4 i j) ls.head?).1::(mi i (j+1) cs ls.tail).1,(c.found (e4 i j) ls.head?).2++(mi i (j+1) cs ls.tail).2)
def GA.found(i:Nat):GA->aE->GA×hj
 | .one c,p=>(.one (c.found (e4 i 0) p.leaf).1,(c.found (e4 i 0) p.leaf).2)
 | .agg cs,.aF (.agg ls)=>(.agg (mi i 0 cs ls).1,(mi i 0 cs ls).2)
 | .agg cs,_=>(.agg (mi i 0 cs []).1,(mi i 0 cs []).2)
def ke:Nat->List GA->List aE->List GA×hj
 | _,[],_=>([],[])
 | i,a::as,cn=>((a.found i (cn.headD .ck)).1::(ke (i+1) as cn.tail).1,(a.found i (cn.headD .ck)).2++(ke (i+1) as cn.tail).2)
theorem eC.Bx{t:Nat}{c:eC}{l:Option az}{k:Nat}{es cm:List (List D)}(h:(c.found t l).1=.eV k es (some cm)):l=some (.J (.own t) k cm)/\(t,t)∈(c.found t l).2:=by
 unfold eC.found at h ⊢;split at h
 ·cases h
 ·rename_i dq dx p s ci atp;split at h
  ·rename_i al;obtain⟨rfl,rfl⟩:=al;simp only[eC.eV.injEq,aS]at h;obtain⟨rfl,_,rfl⟩:=h;exact⟨rfl,by simp⟩
  cases h
 cases h
theorem IH(i:Nat):∀{cs:List eC} {ls:List az} {j x k:Nat} {es cm:List (List D)},(mi i j cs ls).1[x]?=some (.eV k es (some cm))->
  ls[x]?=some (.J (.own (e4 i (j+x))) k cm)/\(e4 i (j+x),e4 i (j+x))∈(mi i j cs ls).2
 | [],ls,j,x,k,es,cm,h=>by simp[mi]at h
 | c::cs,ls,j,0,k,es,cm,h=>by
  simp only[mi,kJ,aS]at h;obtain⟨h1,U⟩:=eC.Bx h;refine⟨by cases ls<;>simp_all,?_⟩;simp only[mi];exact hQ _ U
 | c::cs,ls,j,x+1,k,es,cm,h=>by
  simp only[mi,nE]at h;obtain⟨h1,U⟩:=IH i h;rw[show j+1+x=j+(x+1) by omega]at h1 U;refine⟨by cases ls<;>simp_all,?_⟩;simp only[mi];exact iC _ U
def wX(j:Nat):bm->Option az
 | .one l=>if j=0 then some l else none
 | .agg ls=>ls[j]?
theorem GA.Bx{i j:Nat}{a:GA}{p:aE}{k:Nat}{es cm:List (List D)}(h:(a.found i p).1.cell j=some (.eV k es (some cm))):
  ∃aF,p=.aF aF/\wX j aF=some (.J (.own (e4 i j)) k cm)/\(e4 i j,e4 i j)∈(a.found i p).2:=by
 cases a with
 | one c=>
  simp only[GA.found,GA.cell]at h ⊢;split at h
  ·rename_i bg;subst bg;simp only[aS]at h;obtain⟨h1,U⟩:=eC.Bx h;cases p with
   | fv as=>cases h1
   | aF a=>
    cases a with
    | agg ls=>cases h1
    | one l=>
     simp only[aE.leaf,aS]at h1;exact⟨_,rfl,by simp[wX,h1],U⟩
  cases h
 | agg cs=>
  have NT:∀q:List eC×hj,q=mi i 0 cs []->q.1[j]?=some (.eV k es (some cm))->False:=by
   rintro q rfl h;have:=(IH i h).1;simp at this
  cases p with
  | fv as=>exact (NT _ rfl h).elim
  | aF a=>
   cases a with
   | one l=>exact (NT _ rfl h).elim
   | agg ls=>
    simp only[GA.found,GA.cell]at h ⊢;obtain⟨h1,U⟩:=IH i h;rw[dF]at h1 U;exact⟨_,rfl,by simp[wX,h1],U⟩
theorem Px:∀{as:List GA} {cn:List aE} {i x j:Nat} {a:GA} {k:Nat} {es cm:List (List D)},(ke i as cn).1[x]?=some a->a.cell j=some (.eV k es (some cm))->
  ∃aF,cn[x]?=some (.aF aF)/\wX j aF=some (.J (.own (e4 (i+x) j)) k cm)/\(e4 (i+x) j,e4 (i+x) j)∈(ke i as cn).2
 | [],cn,i,x,j,a,k,es,cm,h,_=>by simp[ke]at h
 | b::as,cn,i,0,j,a,k,es,cm,h,al=>by
  simp only[ke,kJ,aS]at h;subst h;obtain⟨aF,h1,U,ax⟩:=GA.Bx al;refine⟨aF,?_,U,?_⟩
  ·cases cn with
   | nil=>
    simp only[List.headD_nil]at h1;cases h1;simp only[wX]at U;split at U<;>simp at U
   | cons p cn=>simpa using h1
  simp only[ke];exact hQ _ ax
 | b::as,cn,i,x+1,j,a,k,es,cm,h,al=>by
  simp only[ke,nE]at h;obtain⟨aF,h1,U,ax⟩:=Px h al;rw[show i+1+x=i+(x+1) by omega]at U ax;refine⟨aF,by cases cn<;>simp_all,U,?_⟩;simp only[ke];exact iC _ ax
def qE(P:Program)(st:aD)(iT:List ResultVar)(args:List GA)(hint:List cz):Option (List cz×List GA):=
 match iT.mapM (py P st) with
 | some cn=>
  match qF 0 cn hint with
  | some (ds,ts)=>if MD args&&Ds (ts++(ke 0 args st.env).2) then some (ds,(ke 0 args st.env).1) else none
  | none=>none
 | none=>none
theorem Py{P:Program}{f:FuncId}{fn:Func}{c:Code}{args:List GA}{rs:List cz}{ans b':List b4}{obs:List Prop}{e:gR}{st:aD}(b0:P.funcs[f]?=some fn)(aw:fn.body=some c)
  (e5:run P c (wj args fn.ntmps) ans=some (e,st,b',obs)) (aZ:cA obs) (he:e=.ret\/e=.normal) (eG:qE P st fn.results.toList args rs=some (rs,args)):kj P f args rs:=by
 intro w vs A3 lo o8;unfold qE at eG;split at eG
 ·rename_i cn rk;split at eG
  ·rename_i ds ts ey;split at eG
   ·rename_i cJ;simp only[aS,bq]at eG;obtain⟨rfl,WE⟩:=eG;rw[cF]at cJ;obtain⟨dX,cJ⟩:=cJ;refine calls_of_wp b0 aw (Code.wp_mono (fun e' cx aM hp=>?_) (mg c e5 aZ _ _ w (akh dX lo o8 fn.ntmps)));obtain⟨rfl,ω,τ,aU⟩:=hp;obtain⟨zs,h1,U,ax⟩:=CF aU rk;obtain⟨aI,aX⟩:=Du (w:=aM) (ω:=ω) (τ:=τ) (ts:=ts++(ke 0 args st.env).2) (fun t n h=>Dt cJ h) ey (fun x ak=>hQ _ ak);have hm:=Cu (P:=P) _ fn.results aM _ h1;have eW:∀(j:Nat) (d:cz),ds[j]?=some d->∃z,zs[j]?=some z/\k2 aM (hG ω (ts++(ke 0 args st.env).2)) j d z:=by
     intro j d aG;obtain⟨p,hp,rj⟩:=aX j d aG;obtain⟨z,bk,p'⟩:=ax j p hp;exact⟨z,bk,by have:=rj z p';rwa[dF]at this⟩
    have l6:zs.length=ds.length:=by omega
    have hD:∀v,(if h:zs.toArray.size=1 then zs.toArray[0] else .tuple zs.toArray)=v->lE aM (hG ω (ts++(ke 0 args st.env).2)) ds v:=by
     intro v bz;unfold lE;split
     ·rename_i cj;obtain⟨z,bk,al⟩:=eW 0 cj rfl;have h1:zs.length=1:=by rw[l6];rfl
      have p9:zs=[z]:=by
       match zs,h1,bk with
       | [z0],_,bk=>simp at bk;rw[bk]
      have Gj:v=z:=by
       rw[<-bz];simp[p9]
      rw[Gj];exact al
     rename_i c3;have h1:¬zs.toArray.size=1:=by
      intro h;simp at h;rw[l6]at h;obtain⟨d,aG⟩:=List.length_eq_one_iff.1 h;exact c3 d aG
     rw[dif_neg h1]at bz;exact⟨zs.toArray,bz.symm,by simpa using l6,fun r cj aH=>by obtain⟨z,bk,al⟩:=eW r cj aH;exact⟨z,by simpa using bk,al⟩⟩
    have FZ:Kept aM (hG ω (ts++(ke 0 args st.env).2)) args vs:=by
     intro i j eF k es cm kV al;have WJ:(ke 0 args st.env).1[i]?=some eF:=by rw[WE];exact kV
     obtain⟨aF,bx,bN,db⟩:=Px WJ al;rw[dF]at bN db;obtain⟨v,bz,ai⟩:=aU.env i _ bx;have ei:∃u,Sat aM ω τ (.J (.own (e4 i j)) k cm) u:=by
      cases aF with
      | one l=>
       simp only[wX]at bN;split at bN
       ·simp only[aS]at bN;exact⟨v,bN▸ai⟩
       cases bN
      | agg ls=>
       obtain⟨us,_,_,hu⟩:=ai;obtain⟨u,_,dQ⟩:=hu j _ bN;exact⟨u,dQ⟩
     obtain⟨u,aH,bH⟩:=ei;have bg:j<100:=by
      cases eF with
      | one c=>simp only[GA.cell]at al;split at al<;>first | omega | cases al
      | agg cs=>
       have h1:=fx.1 dX _ (fl kV);simp only[cU]at h1;have:=(fy.1 al).1;omega
     have sx:=aU.fixed (e4 i j) (by simp[e4]);have WL:=Fj (args:=args) (vs:=vs) bg kV al;have:u=cellOf (vs.getD i undef) j:=by
      have dQ:τ (e4 i j)=(k,u):=bH;rw[sx]at dQ;have dy:xW args vs (e4 i j)=(k,u):=dQ;rw[WL]at dy;exact (Prod.mk.inj dy).2.symm
     subst this;refine aH.frame fun b q _ aK=>⟨?_,rfl⟩
     simp only[Tag.R]at aK ⊢;have:=Dt cJ (iC ts db);simp only[hG,aK,this]
    have dG:∃v,(results fn cx.tmps).run P aM=.ok v aM/\∃u,Ending.returned v=.returned u/\fO ⟨w,fun b=>A3 b≠.bt,fun _=>(0,undef)⟩ aM/\
      ∃a7:Own,(∀b,b<w.heap.size->A3 b=.bt->a7 b=.bt)/\(∀b,a7 b≠.bt->(∃t q,a7 b=.tok t q)/\∃arr ty,aM.heap[b]?=some (.cells arr ty (0,0)))/\Kept aM a7 args vs/\lE aM a7 ds u:=by
     refine⟨_,?_,_,rfl,⟨aU.below.os,aU.below.tape,aU.below.output,aU.below.size,aU.below.block,aU.below.drawn,aU.below.laid,aU.below.free⟩,hG ω (ts++(ke 0 args st.env).2),fun b aw av=>?_,fun b aw=>?_,FZ,hD _ rfl⟩
     ·rw[IB,Sem.run_bind,hm];rfl
     ·cases c7:ω b with
      | bt=>simp[hG,c7]
      | box id=>simp[hG,c7]
      | tok t q=>
       rcases (aU.owned b (by simp[c7])).1 with h | h
       ·exact absurd aw (by have h:w.heap.size<=b:=h;omega)
       exact absurd av h
     cases c7:ω b with
     | bt=>simp[hG,c7]at aw
     | box id=>simp[hG,c7]at aw
     | tok t q=>
      refine⟨?_,(aU.owned b (by simp[c7])).2⟩;simp only[hG,c7]at aw ⊢;cases jC:(ts++(ke 0 args st.env).2).at t with
      | none=>simp[jC]at aw
      | some n=>exact⟨n,q,rfl⟩
    obtain⟨v,bx,bN⟩:=dG;rcases he with rfl | rfl
    ·exact⟨aU.defers,v,bx,bN⟩
    exact⟨aU.defers,v,bx,bN⟩
   cases eG
  cases eG
 cases eG
def Hl(P:Program)(c:Code)(ntmps:Nat)(iT:List ResultVar)(args:List GA)(hint:List cz)(ans:List b4):Option (List cz×List GA×List Prop):=
 match run P c (wj args ntmps) ans with
 | some (.ret,st,_,obs)=>(qE P st iT args hint).map fun rs=>(rs.1,rs.2,obs)
 | some (.normal,st,_,obs)=>(qE P st iT args hint).map fun rs=>(rs.1,rs.2,obs)
 | _=>none
theorem kj.of{P:Program}{f:FuncId}{fn:Func}{args:List GA}{rs:List cz}(ans:List b4)(obs:List Prop)(b0:P.funcs[f]?=some fn)(aw:fn.body.isSome=true)
  (h:Hl P (mh fn) fn.ntmps fn.results.toList args rs ans=some (rs,args,obs)) (aZ:cA obs):kj P f args rs:=by
 obtain⟨c,al⟩:=pQ.1 aw;have yf:mh fn=c:=by simp[mh,al]
 unfold Hl at h;rw[yf]at h;split at h
 ·rename_i st a lx aH;rw[bX]at h;obtain⟨⟨xg,K5⟩,h1,h⟩:=h;simp only[bq]at h;obtain⟨rfl,rfl,rfl⟩:=h;exact Py b0 al aH aZ (.inl rfl) h1
 ·rename_i st a lx aH;rw[bX]at h;obtain⟨⟨xg,K5⟩,h1,h⟩:=h;simp only[bq]at h;obtain⟨rfl,rfl,rfl⟩:=h;exact Py b0 al aH aZ (.inr rfl) h1
 cases h
end Go.Sx
namespace Go.Sx
open Go.RowKit
def fK(es:List (List Value)):List (List D):=es.map (·.map .v)
theorem CJ(es:List (List Value)):(fK es).length=es.length:=by simp[fK]
variable{es:List (List Value)}
theorem Pz{i j:Nat}{d:D}(h:cQ (fK es) i j=some d):∃e v,es[i]?=some e/\e[j]?=some v/\d=.v v:=by
 unfold cQ fK at h;rw[dr]at h;cases e1:es[i]? with
 | none=>simp[e1]at h
 | some e=>
  simp only[e1,qL,oy,dr,bX]at h;obtain⟨v,h1,rfl⟩:=h;exact⟨e,v,rfl,h1,rfl⟩
theorem Fg{i j:Nat}{e:List Value}{v:Value}(h1:es[i]?=some e)(U:e[j]?=some v):cQ (fK es) i j=some (.v v):=by
 simp[cQ,fK,h1,U]
structure Row (w:World) (b off k cap:Nat) (arr:Array Value) (ty:TypeId) (es:List (List Value)):Prop where
 heap:w.heap[b]?=some (.cells arr ty (0,0))
 room:es.length<=cap
 fit:off+cap*k<=arr.size
 len:∀e∈es,e.length=k
 one:∀e∈es,∀v∈e,v.oneCell'=true
 cell:∀i j e v,es[i]?=some e->e[j]?=some v->arr[off+i*k+j]?=some v
variable{w:World}{k:Nat}{ω:Own}
theorem Row.rep{b off cap:Nat}{arr:Array Value}{ty:TypeId}(h:Row w b off k cap arr ty es){R:List (Nat×Nat)->c0->Prop}(dG:R [] (ω b)):
  bQ w ω R (.J k (fK es)) (.slice (some ⟨b,off,none⟩) es.length cap):=by
 have:=bQ.row (w:=w) (ω:=ω) R k (fK es) b off cap arr ty (0,0) (fun i j=>arr.getD (off+i*k+j) undef) h.heap dG (by rw[CJ];exact h.room) h.fit
  (by intro e he;simp only[fK,kK]at he;obtain⟨bB,b5,rfl⟩:=he;simpa using h.len bB b5)
  (by
   intro i j d aG;obtain⟨e,v,h1,U,rfl⟩:=Pz aG;have:=h.cell i j e v h1 U;simp[ep,this])
  (by
   intro i j d aG;obtain⟨e,v,h1,U,rfl⟩:=Pz aG;have ax:=h.cell i j e v h1 U;have:arr.getD (off+i*k+j) undef=v:=by simp[ep,ax]
   rw[this];exact .v _ _ (h.one e (fl h1) v (fl U)))
 rwa[CJ]at this
theorem EW.row{w:World}{ω:Own}(av:EW w ω){t:Nat}{y:Value}(h:bQ w ω (Tag.own t).R (.J k (fK es)) y):
  (es=[]/\∃a,y=.slice a 0 0)\/∃b off cap arr ty,ω b=.tok t []/\y=.slice (some ⟨b,off,none⟩) es.length cap/\Row w b off k cap arr ty es:=by
 generalize aG:D.J k (fK es)=d at h;cases h with
 | nil R k a=>
  simp only[D.J.injEq]at aG;exact .inl ⟨by simpa[fK]using aG.2,a,rfl⟩
 | row R k cm b off cap arr ty cL us aw dG al ai hk hu eb=>
  simp only[D.J.injEq]at aG;obtain⟨rfl,rfl⟩:=aG;simp only[Tag.R]at dG;obtain⟨_,b9,pN,ax⟩:=av b (by rw[dG];simp);rw[aw]at ax;simp only[aS,Obj.cells.injEq]at ax;obtain⟨rfl,rfl,rfl⟩:=ax;refine .inr ⟨b,off,cap,arr,ty,dG,by rw[CJ],aw,by rwa[CJ]at al,ai,fun e he=>?_,fun e he v bz=>?_,fun i j e v h1 U=>?_⟩
  ·have:=hk (e.map .v) (by simp only[fK,kK];exact⟨e,he,rfl⟩);simpa using this
  ·obtain⟨i,hi⟩:=ox.1 he;obtain⟨j,bg⟩:=ox.1 bz;have:=eb i j (.v v) (Fg hi bg);generalize us i j=u at this;cases this with
   | v _ _ h1=>exact h1
  have ax:=hu i j (.v v) (Fg h1 U);have aI:=eb i j (.v v) (Fg h1 U);generalize us i j=u at ax aI;cases aI with
  | v=>exact ax
 | v=>cases aG
 | ptr=>cases aG
 | cl=>cases aG
structure EX (w aM:World) (own:Nat->Prop) (k:Nat) (es:List (List Value)) (v:Value):Prop where
 VC:tN ⟨w,own,fun _=>(0,undef)⟩ aM
 row:(es=[]/\∃a,v=.slice a 0 0)\/∃b off cap arr ty,(own b\/w.heap.size<=b)/\v=.slice (some ⟨b,off,none⟩) es.length cap/\Row aM b off k cap arr ty es
theorem EX.res{aM:World}{v:Value}(h:EX w aM (fun b=>ω b≠.bt) k es v):
  ∃a7:Own,(∀b,b<w.heap.size->ω b=.bt->a7 b=.bt)/\(∀b,a7 b≠.bt->(∃t q,a7 b=.tok t q)/\∃arr ty,aM.heap[b]?=some (.cells arr ty (0,0)))/\lE aM a7 [.one (.J k (fK es))] v:=by
 rcases h.row with⟨rfl,a,rfl⟩ | ⟨b,off,cap,arr,ty,aZ,rfl,aH⟩
 ·exact⟨fun _=>.bt,fun _ _ _=>rfl,fun b aw=>absurd rfl aw,bQ.nil _ k a⟩
 refine⟨fun c=>if c=b then .tok 0 [] else .bt,fun c al he=>?_,fun c al=>?_,?_⟩
 ·by_cases e:c=b
  ·subst e;rcases aZ with aZ | aZ
   ·exact absurd he aZ
   omega
  simp only[bG e]
 ·by_cases e:c=b
  ·subst e;exact⟨⟨0,[],by simp⟩,arr,ty,aH.heap⟩
  simp only[bG e]at al;exact absurd rfl al
 exact aH.rep (R:=(Tag.own 0).R) (by simp[Tag.R])
def D.Ak:D->Value
 | .v x=>x
 | _=>undef
theorem VA{vs:Array Value}{a b c:Value}(h:vs.size=3)(b5:vs[0]?=some a)(h1:vs[1]?=some b)(U:vs[2]?=some c):vs=#[a,b,c]:=by
 apply Array.ext
 ·simpa using h
 intro i hi _;have nX:i<3:=by omega
 match i,nX with
 | 0,_=>simpa[lb hi]using b5
 | 1,_=>simpa[lb hi]using h1
 | 2,_=>simpa[lb hi]using U
theorem bQ.VT{R:List (Nat×Nat)->c0->Prop}{x y:Value}(h:bQ w ω R (.v x) y):y=x:=by
 cases h;rfl
theorem aki{args:List GA}{vs:Array Value}(h:∀(i j:Nat) (eF:GA) (k:Nat) (es cm:List (List D)),args[i]?=some eF->eF.cell j=some (.eV k es (some cm))->False):Kept w ω args vs:=
 fun i j eF k es cm h1 U=>(h i j eF k es cm h1 U).elim
@[simp] theorem setRow_drawn (w : World) (b : Nat) (cs : Array Value) : (w.setRow b cs).drawn = w.drawn := rfl
theorem akj{own:Nat->Prop}{b:Nat}(aw:own b)(fD ET:Array Value):tN ⟨w,own,fun _=>(0,undef)⟩ ((w.drew.setRow b fD).setRow b ET):=by
 refine⟨rfl,rfl,rfl,by simp,fun k hk av=>?_,?_⟩
 ·have:k≠b:=fun e=>av (by rw[e];exact aw)
  rw[setRow_other _ b k _ this,setRow_other _ b k _ this];rfl
 intro _;show w.drawn<=w.drawn+1;omega
