import Derived.Test.YthfnndblgbjniaaGreatR15
set_option linter.unusedVariables false
set_option linter.unusedSimpArgs false
namespace Go.Sx
open Go.RowKit
def eM.leaf(t:Nat):eM->aG
 | .ro d=>d.leaf .free
 | .e5 k es _=>.J (.own t) k es
def wB(i:Nat):Nat->List eM->List aG
 | _,[]=>[]
 | j,c::cs=>c.leaf (fy i j)::wB i (j+1) cs
def GA.aF(i:Nat):GA->bp
 | .one c=>.one (c.leaf (fy i 0))
 | .agg cs=>.agg (wB i 0 cs)
def vl:Nat->List GA->List aI
 | _,[]=>[]
 | i,a::as=>.aF (a.aF i)::vl (i+1) as
def zD(args:List GA)(ntmps:Nat):aD:=⟨vl 0 args++List.replicate (ntmps-args.length) .cp,[]⟩
def eM.post:eM->aG->eM
 | .e5 k es (some _),.J (.own _) ck cC=>if ck=k then .e5 k es (some cC) else .e5 k es none
 | .e5 k es _,_=>.e5 k es none
 | c,_=>c
def R1(args:List GA):Bool:=args.all fun | .one _=>true | .agg cs=>decide (cs.length<=100)
def R2(args:List GA)(t:Nat):Nat:=
 match (args[(t-dk) / 100]?).bind (GA.cell ((t-dk) % 100)) with
 | some (.e5 k _ _)=>k
 | _=>0
def Bw(args:List GA)(vs:Array Value)(t:Nat):Nat×Value:=(R2 args t,cellOf (vs.getD ((t-dk) / 100) undef) ((t-dk) % 100))
theorem JS{args:List GA}{vs:Array Value}{i j:Nat}(bf:j<100){fe:GA}(ah:args[i]?=some fe){k:Nat}{es:List (List D)}{post:Option (List (List D))}(ai:fe.cell j=some (.e5 k es post)):
  Bw args vs (fy i j)=(k,cellOf (vs.getD i undef) j):=by
 have e1:(fy i j-dk) / 100=i:=by simp only[fy];omega
 have e2:(fy i j-dk) % 100=j:=by simp only[fy];omega
 simp only[Bw,R2,e1,e2,ah,q0,ai]
theorem U2(i:Nat):∀(cs:List eM) (j x:Nat),(wB i j cs)[x]?=(cs[x]?).map fun c=>c.leaf (fy i (j+x))
 | [],j,x=>by simp[wB]
 | c::cs,j,0=>by simp[wB]
 | c::cs,j,x+1=>by
  simp only[wB,p8,U2 i cs (j+1) x];rw[show j+1+x=j+(x+1) by omega]
theorem U3(i:Nat):∀(cs:List eM) (j:Nat),(wB i j cs).length=cs.length
 | [],_=>rfl
 | c::cs,j=>by simp[wB,U3 i cs (j+1)]
theorem U4:∀(as:List GA) (i x:Nat),(vl i as)[x]?=(as[x]?).map fun a=>.aF (a.aF (i+x))
 | [],i,x=>by simp[vl]
 | a::as,i,0=>by simp[vl]
 | a::as,i,x+1=>by
  simp only[vl,p8,U4 as (i+1) x];rw[show i+1+x=i+(x+1) by omega]
theorem N4:∀(as:List GA) (i:Nat),(vl i as).length=as.length
 | [],_=>rfl
 | a::as,i=>by simp[vl,N4 as (i+1)]
theorem w5.sat{w:World}{ω:Own}{τ:Nat->Nat×Value}{t:Nat}{c:eM}{y:Value}(h:w5 w ω t c y)(uo:∀k es post,c=.e5 k es post->τ t=(k,y)):Sat w ω τ (c.leaf t) y:=by
 cases c with
 | ro d=>exact D.dU (t:=.free) (p:=(0,0)) h
 | e5 k es post=>exact⟨h,uo k es post rfl⟩
theorem aBr{w:World}{ω:Own}{args:List GA}{vs:Array Value}(eo:R1 args=true)(h:Jt w ω args vs)(mx:Tidy w ω)(ntmps:Nat):
  Rel ⟨w,fun b=>ω b≠.bP,Bw args vs⟩ (zD args ntmps) { tmps:=vs++Array.replicate (ntmps-vs.size) undef,defers:=[] } w:=by
 obtain⟨ay,aW,ah⟩:=h;refine⟨ω,Bw args vs,rfl,by simp[zD,aW,N4],gZ.start mx,fun b aw=>⟨.inr aw,(ay b aw).2⟩,fun _ _=>rfl,(fun id b _ aw=>by
  obtain⟨⟨t,q,e,_⟩,_⟩:=ay b (by rw[aw];simp);rw[aw]at e;cases e),?_,fun id ls al=>by simp[zD,dK]at al⟩
 intro i p hp;simp only[zD]at hp;rw[qY,N4]at hp;split at hp
 ·rename_i hi;rw[U4,ca]at hp;obtain⟨fe,gI,rfl⟩:=hp;rw[dX];obtain⟨v,bF,bY⟩:=ah i fe gI;have oB:i<vs.size:=by omega
  refine⟨v,by rw[ji,bq oB,bF],?_⟩;have S0:vs.getD i undef=v:=by simp[fc,bF]
  cases fe with
  | one c=>
   refine w5.sat bY fun k es post ai=>?_
   have:=JS (args:=args) (vs:=vs) (i:=i) (j:=0) (by omega) gI (k:=k) (es:=es) (post:=post) (by simp[GA.cell,ai]);rw[this,S0];subst ai;have aC:b3 w ω (Tag.own (fy i 0)).R (.J k es) v:=bY;obtain⟨b,c,rfl⟩:=aC.len;rfl
  | agg cs=>
   obtain⟨us,rfl,hlen,oz⟩:=bY;refine⟨us,rfl,by rw[U3];exact hlen,fun j l al=>?_⟩;rw[U2,ca]at al;obtain⟨c,ai,rfl⟩:=al;rw[dX];obtain⟨u,hu,bY⟩:=oz j c ai;have bf:j<100:=by
    have h1:=gn.1 eo _ (gj gI);simp only[cj]at h1;have:=(ga.1 ai).1;omega
   refine⟨u,hu,w5.sat bY fun k es post e=>?_⟩;rw[JS (args:=args) (vs:=vs) bf gI (k:=k) (es:=es) (post:=post) (by simp only[GA.cell,ai,e]),S0];simp[cellOf,Value.cells,fc,hu]
 rename_i hi;rw[EO]at hp;split at hp
 ·rename_i bR;simp only[aZ]at hp;subst hp;refine⟨undef,?_,aa⟩;rw[ji,bD (by omega),Array.getElem?_replicate,bq (by omega)]
 cases hp
end Go.Sx
namespace Go.Sx
open Go.RowKit
def eM.found(t:Nat):eM->Option aG->eM×iR
 | .ro d,_=>(.ro d,[])
 | .e5 k es (some _),some (.J (.own s) ck cC)=>if s=t/\ck=k then (.e5 k es (some cC),[(t,t)]) else (.e5 k es none,[])
 | .e5 k es _,_=>(.e5 k es none,[])
def oM(i:Nat):Nat->List eM->List aG->List eM×iR
 | _,[],_=>([],[])
 | j,c::cs,ls=>((c.found (fy i j) ls.head?).1::(oM i (j+1) cs ls.tail).1,(c.found (fy i j) ls.head?).2++(oM i (j+1) cs ls.tail).2)
def GA.found(i:Nat):GA->aI->GA×iR
 | .one c,p=>(.one (c.found (fy i 0) p.leaf).1,(c.found (fy i 0) p.leaf).2)
 | .agg cs,.aF (.agg ls)=>(.agg (oM i 0 cs ls).1,(oM i 0 cs ls).2)
 | .agg cs,_=>(.agg (oM i 0 cs []).1,(oM i 0 cs []).2)
def mc:Nat->List GA->List aI->List GA×iR
 | _,[],_=>([],[])
 | i,a::as,cz=>((a.found i (cz.headD .cp)).1::(mc (i+1) as cz.tail).1,(a.found i (cz.headD .cp)).2++(mc (i+1) as cz.tail).2)
theorem eM.Fm{t:Nat}{c:eM}{l:Option aG}{k:Nat}{es cC:List (List D)}(h:(c.found t l).1=.e5 k es (some cC)):l=some (.J (.own t) k cC)/\(t,t)∈(c.found t l).2:=by
 unfold eM.found at h ⊢;split at h
 ·cases h
 ·rename_i dw dT p s ck aE0;split at h
  ·rename_i ai;obtain⟨rfl,rfl⟩:=ai;simp only[eM.e5.injEq,aZ]at h;obtain⟨rfl,_,rfl⟩:=h;exact⟨rfl,by simp⟩
  cases h
 cases h
theorem N5(i:Nat):∀{cs:List eM} {ls:List aG} {j x k:Nat} {es cC:List (List D)},(oM i j cs ls).1[x]?=some (.e5 k es (some cC))->
  ls[x]?=some (.J (.own (fy i (j+x))) k cC)/\(fy i (j+x),fy i (j+x))∈(oM i j cs ls).2
 | [],ls,j,x,k,es,cC,h=>by simp[oM]at h
 | c::cs,ls,j,0,k,es,cC,h=>by
  simp only[oM,lY,aZ]at h;obtain⟨h1,U⟩:=eM.Fm h;refine⟨by cases ls<;>simp_all,?_⟩;simp only[oM];exact hJ _ U
 | c::cs,ls,j,x+1,k,es,cC,h=>by
  simp only[oM,p8]at h;obtain⟨h1,U⟩:=N5 i h;rw[show j+1+x=j+(x+1) by omega]at h1 U;refine⟨by cases ls<;>simp_all,?_⟩;simp only[oM];exact iN _ U
def AP(j:Nat):bp->Option aG
 | .one l=>if j=0 then some l else none
 | .agg ls=>ls[j]?
theorem GA.Fm{i j:Nat}{a:GA}{p:aI}{k:Nat}{es cC:List (List D)}(h:(a.found i p).1.cell j=some (.e5 k es (some cC))):
  ∃aF,p=.aF aF/\AP j aF=some (.J (.own (fy i j)) k cC)/\(fy i j,fy i j)∈(a.found i p).2:=by
 cases a with
 | one c=>
  simp only[GA.found,GA.cell]at h ⊢;split at h
  ·rename_i bf;subst bf;simp only[aZ]at h;obtain⟨h1,U⟩:=eM.Fm h;cases p with
   | gx as=>cases h1
   | aF a=>
    cases a with
    | agg ls=>cases h1
    | one l=>
     simp only[aI.leaf,aZ]at h1;exact⟨_,rfl,by simp[AP,h1],U⟩
  cases h
 | agg cs=>
  have Tk:∀q:List eM×iR,q=oM i 0 cs []->q.1[j]?=some (.e5 k es (some cC))->False:=by
   rintro q rfl h;have:=(N5 i h).1;simp at this
  cases p with
  | gx as=>exact (Tk _ rfl h).elim
  | aF a=>
   cases a with
   | one l=>exact (Tk _ rfl h).elim
   | agg ls=>
    simp only[GA.found,GA.cell]at h ⊢;obtain⟨h1,U⟩:=N5 i h;rw[dX]at h1 U;exact⟨_,rfl,by simp[AP,h1],U⟩
theorem U5:∀{as:List GA} {cz:List aI} {i x j:Nat} {a:GA} {k:Nat} {es cC:List (List D)},(mc i as cz).1[x]?=some a->a.cell j=some (.e5 k es (some cC))->
  ∃aF,cz[x]?=some (.aF aF)/\AP j aF=some (.J (.own (fy (i+x) j)) k cC)/\(fy (i+x) j,fy (i+x) j)∈(mc i as cz).2
 | [],cz,i,x,j,a,k,es,cC,h,_=>by simp[mc]at h
 | b::as,cz,i,0,j,a,k,es,cC,h,ai=>by
  simp only[mc,lY,aZ]at h;subst h;obtain⟨aF,h1,U,aA⟩:=GA.Fm ai;refine⟨aF,?_,U,?_⟩
  ·cases cz with
   | nil=>
    simp only[List.headD_nil]at h1;cases h1;simp only[AP]at U;split at U<;>simp at U
   | cons p cz=>simpa using h1
  simp only[mc];exact hJ _ aA
 | b::as,cz,i,x+1,j,a,k,es,cC,h,ai=>by
  simp only[mc,p8]at h;obtain⟨aF,h1,U,aA⟩:=U5 h ai;rw[show i+1+x=i+(x+1) by omega]at U aA;refine⟨aF,by cases cz<;>simp_all,U,?_⟩;simp only[mc];exact iN _ aA
def qS(P:Program)(st:aD)(kH:List ResultVar)(args:List GA)(hint:List cR):Option (List cR×List GA):=
 match kH.mapM (r2 P st) with
 | some cz=>
  match tv 0 cz hint with
  | some (ds,ts)=>if R1 args&&Hq (ts++(mc 0 args st.env).2) then some (ds,(mc 0 args st.env).1) else none
  | none=>none
 | none=>none
theorem U6{P:Program}{f:FuncId}{fn:Func}{c:Code}{args:List GA}{rs:List cR}{ans cv:List cf}{obs:List Prop}{e:h3}{st:aD}(bI:P.funcs[f]?=some fn)(aw:fn.body=some c)
  (fU:run P c (zD args fn.ntmps) ans=some (e,st,cv,obs)) (a8:cO obs) (he:e=.ret\/e=.normal) (fl:qS P st fn.results.toList args rs=some (rs,args)):ks P f args rs:=by
 intro w vs ET nP mx;unfold qS at fl;split at fl
 ·rename_i cz ue;split at fl
  ·rename_i ds ts fj;split at fl
   ·rename_i bY;simp only[aZ,bL]at fl;obtain⟨rfl,adM⟩:=fl;rw[cu]at bY;obtain⟨eo,bY⟩:=bY;refine calls_of_wp bI aw (Code.wp_mono (fun e' cQ aN hp=>?_) (oT c fU a8 _ _ w (aBr eo nP mx fn.ntmps)));obtain⟨rfl,ω,τ,a6⟩:=hp;obtain⟨zs,h1,U,aA⟩:=Ht a6 ue;obtain⟨aJ,a7⟩:=Hs (w:=aN) (ω:=ω) (τ:=τ) (ts:=ts++(mc 0 args st.env).2) (fun t n h=>Hr bY h) fj (fun x ag=>hJ _ ag);have hm:=Gk (P:=P) _ fn.results aN _ h1;have fA:∀(j:Nat) (d:cR),ds[j]?=some d->∃z,zs[j]?=some z/\ng aN (jr ω (ts++(mc 0 args st.env).2)) j d z:=by
     intro j d aE;obtain⟨p,hp,ud⟩:=a7 j d aE;obtain⟨z,bb,qy⟩:=aA j p hp;exact⟨z,bb,by have:=ud z qy;rwa[dX]at this⟩
    have nd:zs.length=ds.length:=by omega
    have h9:∀v,(if h:zs.toArray.size=1 then zs.toArray[0] else .tuple zs.toArray)=v->nX aN (jr ω (ts++(mc 0 args st.env).2)) ds v:=by
     intro v bF;unfold nX;split
     ·rename_i cw;obtain⟨z,bb,ai⟩:=fA 0 cw rfl;have h1:zs.length=1:=by rw[nd];rfl
      have sS:zs=[z]:=by
       match zs,h1,bb with
       | [z0],_,bb=>simp at bb;rw[bb]
      have KU:v=z:=by
       rw[<-bF];simp[sS]
      rw[KU];exact ai
     rename_i cZ;have h1:¬zs.toArray.size=1:=by
      intro h;simp at h;rw[nd]at h;obtain⟨d,aE⟩:=List.length_eq_one_iff.1 h;exact cZ d aE
     rw[dif_neg h1]at bF;exact⟨zs.toArray,bF.symm,by simpa using nd,fun r cw aC=>by obtain⟨z,bb,ai⟩:=fA r cw aC;exact⟨z,by simpa using bb,ai⟩⟩
    have Ky:Kept aN (jr ω (ts++(mc 0 args st.env).2)) args vs:=by
     intro i j fe k es cC gI ai;have adQ:(mc 0 args st.env).1[i]?=some fe:=by rw[adM];exact gI
     obtain⟨aF,bw,b1,dA⟩:=U5 adQ ai;rw[dX]at b1 dA;obtain⟨v,bF,ao⟩:=a6.env i _ bw;have e8:∃u,Sat aN ω τ (.J (.own (fy i j)) k cC) u:=by
      cases aF with
      | one l=>
       simp only[AP]at b1;split at b1
       ·simp only[aZ]at b1;exact⟨v,b1▸ao⟩
       cases b1
      | agg ls=>
       obtain⟨us,_,_,hu⟩:=ao;obtain⟨u,_,ez⟩:=hu j _ b1;exact⟨u,ez⟩
     obtain⟨u,aC,bO⟩:=e8;have bf:j<100:=by
      cases fe with
      | one c=>simp only[GA.cell]at ai;split at ai<;>first | omega | cases ai
      | agg cs=>
       have h1:=gn.1 eo _ (gj gI);simp only[cj]at h1;have:=(ga.1 ai).1;omega
     have vy:=a6.fixed (fy i j) (by simp[fy]);have adS:=JS (args:=args) (vs:=vs) bf gI ai;have:u=cellOf (vs.getD i undef) j:=by
      have ez:τ (fy i j)=(k,u):=bO;rw[vy]at ez;have dZ:Bw args vs (fy i j)=(k,u):=ez;rw[adS]at dZ;exact (Prod.mk.inj dZ).2.symm
     subst this;refine aC.frame fun b q _ aH=>⟨?_,rfl⟩
     simp only[Tag.R]at aH ⊢;have:=Hr bY (iN ts dA);simp only[jr,aH,this]
    have ef:∃v,(results fn cQ.tmps).run P aN=.ok v aN/\∃u,Ending.returned v=.returned u/\gZ ⟨w,fun b=>ET b≠.bP,fun _=>(0,undef)⟩ aN/\
      ∃bh:Own,(∀b,b<w.heap.size->ET b=.bP->bh b=.bP)/\(∀b,bh b≠.bP->(∃t q,bh b=.tok t q)/\∃arr ty,aN.heap[b]?=some (.cells arr ty (0,0)))/\Kept aN bh args vs/\nX aN bh ds u:=by
     refine⟨_,?_,_,rfl,⟨a6.below.os,a6.below.tape,a6.below.output,a6.below.size,a6.below.block,a6.below.drawn,a6.below.laid,a6.below.free⟩,jr ω (ts++(mc 0 args st.env).2),fun b aw ay=>?_,fun b aw=>?_,Ky,h9 _ rfl⟩
     ·rw[NW,Sem.run_bind,hm];rfl
     ·cases di:ω b with
      | bP=>simp[jr,di]
      | box id=>simp[jr,di]
      | tok t q=>
       rcases (a6.owned b (by simp[di])).1 with h | h
       ·exact absurd aw (by have h:w.heap.size<=b:=h;omega)
       exact absurd ay h
     cases di:ω b with
     | bP=>simp[jr,di]at aw
     | box id=>simp[jr,di]at aw
     | tok t q=>
      refine⟨?_,(a6.owned b (by simp[di])).2⟩;simp only[jr,di]at aw ⊢;cases ll:(ts++(mc 0 args st.env).2).at t with
      | none=>simp[ll]at aw
      | some n=>exact⟨n,q,rfl⟩
    obtain⟨v,bw,b1⟩:=ef;rcases he with rfl | rfl
    ·exact⟨a6.defers,v,bw,b1⟩
    exact⟨a6.defers,v,bw,b1⟩
   cases fl
  cases fl
 cases fl
def LP(P:Program)(c:Code)(ntmps:Nat)(kH:List ResultVar)(args:List GA)(hint:List cR)(ans:List cf):Option (List cR×List GA×List Prop):=
 match run P c (zD args ntmps) ans with
 | some (.ret,st,_,obs)=>(qS P st kH args hint).map fun rs=>(rs.1,rs.2,obs)
 | some (.normal,st,_,obs)=>(qS P st kH args hint).map fun rs=>(rs.1,rs.2,obs)
 | _=>none
theorem ks.of{P:Program}{f:FuncId}{fn:Func}{args:List GA}{rs:List cR}(ans:List cf)(obs:List Prop)(bI:P.funcs[f]?=some fn)(aw:fn.body.isSome=true)
  (h:LP P (oU fn) fn.ntmps fn.results.toList args rs ans=some (rs,args,obs)) (a8:cO obs):ks P f args rs:=by
 obtain⟨c,ai⟩:=sj.1 aw;have BU:oU fn=c:=by simp[oU,ai]
 unfold LP at h;rw[BU]at h;split at h
 ·rename_i st a nU aC;rw[ca]at h;obtain⟨⟨A0,Qj⟩,h1,h⟩:=h;simp only[bL]at h;obtain⟨rfl,rfl,rfl⟩:=h;exact U6 bI ai aC a8 (.inl rfl) h1
 ·rename_i st a nU aC;rw[ca]at h;obtain⟨⟨A0,Qj⟩,h1,h⟩:=h;simp only[bL]at h;obtain⟨rfl,rfl,rfl⟩:=h;exact U6 bI ai aC a8 (.inr rfl) h1
 cases h
end Go.Sx
namespace Go.Sx
open Go.RowKit
def gG(es:List (List Value)):List (List D):=es.map (·.map .v)
theorem Hz(es:List (List Value)):(gG es).length=es.length:=by simp[gG]
variable{es:List (List Value)}
theorem U7{i j:Nat}{d:D}(h:df (gG es) i j=some d):∃e v,es[i]?=some e/\e[j]?=some v/\d=.v v:=by
 unfold df gG at h;rw[dI]at h;cases e1:es[i]? with
 | none=>simp[e1]at h
 | some e=>
  simp only[e1,sk,q0,dI,ca]at h;obtain⟨v,h1,rfl⟩:=h;exact⟨e,v,rfl,h1,rfl⟩
theorem JP{i j:Nat}{e:List Value}{v:Value}(h1:es[i]?=some e)(U:e[j]?=some v):df (gG es) i j=some (.v v):=by
 simp[df,gG,h1,U]
structure Row (w:World) (b off k cap:Nat) (arr:Array Value) (ty:TypeId) (es:List (List Value)):Prop where
 heap:w.heap[b]?=some (.cells arr ty (0,0))
 room:es.length<=cap
 fit:off+cap*k<=arr.size
 len:∀e∈es,e.length=k
 one:∀e∈es,∀v∈e,v.oneCell'=true
 cell:∀i j e v,es[i]?=some e->e[j]?=some v->arr[off+i*k+j]?=some v
variable{w:World}{k:Nat}
theorem Row.rep{b off cap:Nat}{arr:Array Value}{ty:TypeId}(h:Row w b off k cap arr ty es){ω:Own}{R:List (Nat×Nat)->dv->Prop}(ef:R [] (ω b)):
  b3 w ω R (.J k (gG es)) (.slice (some ⟨b,off,none⟩) es.length cap):=by
 have:=b3.row (w:=w) (ω:=ω) R k (gG es) b off cap arr ty (0,0) (fun i j=>arr.getD (off+i*k+j) undef) h.heap ef (by rw[Hz];exact h.room) h.fit
  (by intro e he;simp only[gG,kr]at he;obtain⟨bE,bJ,rfl⟩:=he;simpa using h.len bE bJ)
  (by
   intro i j d aE;obtain⟨e,v,h1,U,rfl⟩:=U7 aE;have:=h.cell i j e v h1 U;simp[fc,this])
  (by
   intro i j d aE;obtain⟨e,v,h1,U,rfl⟩:=U7 aE;have aA:=h.cell i j e v h1 U;have:arr.getD (off+i*k+j) undef=v:=by simp[fc,aA]
   rw[this];exact .v _ _ (h.one e (gj h1) v (gj U)))
 rwa[Hz]at this
theorem Ju.row{w:World}{ω:Own}(ay:Ju w ω){t:Nat}{y:Value}(h:b3 w ω (Tag.own t).R (.J k (gG es)) y):
  (es=[]/\∃a,y=.slice a 0 0)\/∃b off cap arr ty,ω b=.tok t []/\y=.slice (some ⟨b,off,none⟩) es.length cap/\Row w b off k cap arr ty es:=by
 generalize aE:D.J k (gG es)=d at h;cases h with
 | nil R k a=>
  simp only[D.J.injEq]at aE;exact .inl ⟨by simpa[gG]using aE.2,a,rfl⟩
 | row R k cC b off cap arr ty cY us aw ef ai ao hk hu eQ=>
  simp only[D.J.injEq]at aE;obtain⟨rfl,rfl⟩:=aE;simp only[Tag.R]at ef;obtain⟨_,cm,se,aA⟩:=ay b (by rw[ef];simp);rw[aw]at aA;simp only[aZ,Obj.cells.injEq]at aA;obtain⟨rfl,rfl,rfl⟩:=aA;refine .inr ⟨b,off,cap,arr,ty,ef,by rw[Hz],aw,by rwa[Hz]at ai,ao,fun e he=>?_,fun e he v bF=>?_,fun i j e v h1 U=>?_⟩
  ·have:=hk (e.map .v) (by simp only[gG,kr];exact⟨e,he,rfl⟩);simpa using this
  ·obtain⟨i,hi⟩:=ob.1 he;obtain⟨j,bf⟩:=ob.1 bF;have:=eQ i j (.v v) (JP hi bf);generalize us i j=u at this;cases this with
   | v _ _ h1=>exact h1
  have aA:=hu i j (.v v) (JP h1 U);have aJ:=eQ i j (.v v) (JP h1 U);generalize us i j=u at aA aJ;cases aJ with
  | v=>exact aA
 | v=>cases aE
 | ptr=>cases aE
 | cl=>cases aE
structure EX (w aN:World) (own:Nat->Prop) (k:Nat) (es:List (List Value)) (v:Value):Prop where
 RI:sm ⟨w,own,fun _=>(0,undef)⟩ aN
 row:(es=[]/\∃a,v=.slice a 0 0)\/∃b off cap arr ty,(own b\/w.heap.size<=b)/\v=.slice (some ⟨b,off,none⟩) es.length cap/\Row aN b off k cap arr ty es
variable{ω:Own}
theorem EX.res{aN:World}{v:Value}(h:EX w aN (fun b=>ω b≠.bP) k es v):
  ∃bh:Own,(∀b,b<w.heap.size->ω b=.bP->bh b=.bP)/\(∀b,bh b≠.bP->(∃t q,bh b=.tok t q)/\∃arr ty,aN.heap[b]?=some (.cells arr ty (0,0)))/\nX aN bh [.one (.J k (gG es))] v:=by
 rcases h.row with⟨rfl,a,rfl⟩ | ⟨b,off,cap,arr,ty,a8,rfl,aC⟩
 ·exact⟨fun _=>.bP,fun _ _ _=>rfl,fun b aw=>absurd rfl aw,b3.nil _ k a⟩
 refine⟨fun c=>if c=b then .tok 0 [] else .bP,fun c ai he=>?_,fun c ai=>?_,?_⟩
 ·by_cases e:c=b
  ·subst e;rcases a8 with a8 | a8
   ·exact absurd he a8
   omega
  simp only[bD e]
 ·by_cases e:c=b
  ·subst e;exact⟨⟨0,[],by simp⟩,arr,ty,aC.heap⟩
  simp only[bD e]at ai;exact absurd rfl ai
 exact aC.rep (R:=(Tag.own 0).R) (by simp[Tag.R])
def D.yP:D->Value
 | .v x=>x
 | _=>undef
variable{vs:Array Value}
theorem acO{a b:Value}(h:vs.size=2)(bJ:vs[0]?=some a)(h1:vs[1]?=some b):vs=#[a,b]:=by
 apply Array.ext
 ·simpa using h
 intro i hi _;have oB:i<2:=by omega
 match i,oB with
 | 0,_=>simpa[lV hi]using bJ
 | 1,_=>simpa[lV hi]using h1
theorem RG{a b c:Value}(h:vs.size=3)(bJ:vs[0]?=some a)(h1:vs[1]?=some b)(U:vs[2]?=some c):vs=#[a,b,c]:=by
 apply Array.ext
 ·simpa using h
 intro i hi _;have oB:i<3:=by omega
 match i,oB with
 | 0,_=>simpa[lV hi]using bJ
 | 1,_=>simpa[lV hi]using h1
 | 2,_=>simpa[lV hi]using U
theorem b3.Fl{R:List (Nat×Nat)->dv->Prop}{x y:Value}(h:b3 w ω R (.v x) y):y=x:=by
 cases h;rfl
theorem U8{args:List GA}(h:∀(i j:Nat) (fe:GA) (k:Nat) (es cC:List (List D)),args[i]?=some fe->fe.cell j=some (.e5 k es (some cC))->False):Kept w ω args vs:=
 fun i j fe k es cC h1 U=>(h i j fe k es cC h1 U).elim
@[simp] theorem setRow_drawn (w : World) (b : Nat) (cs : Array Value) : (w.setRow b cs).drawn = w.drawn := rfl
theorem U9{own:Nat->Prop}{b:Nat}(aw:own b)(dD Jq:Array Value):sm ⟨w,own,fun _=>(0,undef)⟩ ((w.drew.setRow b dD).setRow b Jq):=by
 refine⟨rfl,rfl,rfl,by simp,fun k hk ay=>?_,?_⟩
 ·have:k≠b:=fun e=>ay (by rw[e];exact aw)
  rw[setRow_other _ b k _ this,setRow_other _ b k _ this];rfl
 intro _;show w.drawn<=w.drawn+1;omega
