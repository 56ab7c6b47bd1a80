import Derived.Test.YtdchjefneblpgaaGreatR15
set_option linter.unusedVariables false
set_option linter.unusedSimpArgs false
namespace Go.Sx
open Go.RowKit
def eC.leaf(t:Nat):eC->az
 | .ro d=>d.leaf .free
 | .eV k es _=>.J (.own t) k es
def ta(i:Nat):Nat->List eC->List az
 | _,[]=>[]
 | j,c::cs=>c.leaf (e4 i j)::ta i (j+1) cs
def GA.aF(i:Nat):GA->bm
 | .one c=>.one (c.leaf (e4 i 0))
 | .agg cs=>.agg (ta i 0 cs)
def sq:Nat->List GA->List aE
 | _,[]=>[]
 | i,a::as=>.aF (a.aF i)::sq (i+1) as
def wh(args:List GA)(ntmps:Nat):aD:=⟨sq 0 args++List.replicate (ntmps-args.length) .cj,[]⟩
def eC.post:eC->az->eC
 | .eV k es (some _),.J (.own _) ch ck=>if ch=k then .eV k es (some ck) else .eV k es none
 | .eV k es _,_=>.eV k es none
 | c,_=>c
def MB(args:List GA):Bool:=args.all fun | .one _=>true | .agg cs=>decide (cs.length<=100)
def MC(args:List GA)(t:Nat):Nat:=
 match (args[(t-cX) / 100]?).bind (GA.cell ((t-cX) % 100)) with
 | some (.eV k _ _)=>k
 | _=>0
def xU(args:List GA)(vs:Array Value)(t:Nat):Nat×Value:=(MC args t,cellOf (vs.getD ((t-cX) / 100) undef) ((t-cX) % 100))
theorem Fi{args:List GA}{vs:Array Value}{i j:Nat}(bg:j<100){eF:GA}(ah:args[i]?=some eF){k:Nat}{es:List (List D)}{post:Option (List (List D))}(al:eF.cell j=some (.eV k es post)):
  xU args vs (e4 i j)=(k,cellOf (vs.getD i undef) j):=by
 have e1:(e4 i j-cX) / 100=i:=by simp only[e4];omega
 have e2:(e4 i j-cX) % 100=j:=by simp only[e4];omega
 simp only[xU,MC,e1,e2,ah,ox,al]
theorem Ps(i:Nat):∀(cs:List eC) (j x:Nat),(ta i j cs)[x]?=(cs[x]?).map fun c=>c.leaf (e4 i (j+x))
 | [],j,x=>by simp[ta]
 | c::cs,j,0=>by simp[ta]
 | c::cs,j,x+1=>by
  simp only[ta,nD,Ps i cs (j+1) x];rw[show j+1+x=j+(x+1) by omega]
theorem Pt(i:Nat):∀(cs:List eC) (j:Nat),(ta i j cs).length=cs.length
 | [],_=>rfl
 | c::cs,j=>by simp[ta,Pt i cs (j+1)]
theorem Pu:∀(as:List GA) (i x:Nat),(sq i as)[x]?=(as[x]?).map fun a=>.aF (a.aF (i+x))
 | [],i,x=>by simp[sq]
 | a::as,i,0=>by simp[sq]
 | a::as,i,x+1=>by
  simp only[sq,nD,Pu as (i+1) x];rw[show i+1+x=i+(x+1) by omega]
theorem IF:∀(as:List GA) (i:Nat),(sq i as).length=as.length
 | [],_=>rfl
 | a::as,i=>by simp[sq,IF as (i+1)]
theorem tM.sat{w:World}{ω:Own}{τ:Nat->Nat×Value}{t:Nat}{c:eC}{y:Value}(h:tM w ω t c y)(ru:∀k es post,c=.eV k es post->τ t=(k,y)):Sat w ω τ (c.leaf t) y:=by
 cases c with
 | ro d=>exact D.du (t:=.free) (p:=(0,0)) h
 | eV k es post=>exact⟨h,ru k es post rfl⟩
theorem akd{w:World}{ω:Own}{args:List GA}{vs:Array Value}(dX:MB args=true)(h:EU w ω args vs)(o8:Tidy w ω)(ntmps:Nat):
  Rel ⟨w,fun b=>ω b≠.bt,xU args vs⟩ (wh args ntmps) { tmps:=vs++Array.replicate (ntmps-vs.size) undef,defers:=[] } w:=by
 obtain⟨av,a8,ah⟩:=h;refine⟨ω,xU args vs,rfl,by simp[wh,a8,IF],fO.start o8,fun b aw=>⟨.inr aw,(av b aw).2⟩,fun _ _=>rfl,(fun id b _ aw=>by
  obtain⟨⟨t,q,e,_⟩,_⟩:=av b (by rw[aw];simp);rw[aw]at e;cases e),?_,fun id ls ap=>by simp[wh,df]at ap⟩
 intro i p hp;simp only[wh]at hp;rw[ov,IF]at hp;split at hp
 ·rename_i hi;rw[Pu,bX]at hp;obtain⟨eF,kR,rfl⟩:=hp;rw[dF];obtain⟨v,bz,cJ⟩:=ah i eF kR;have nW:i<vs.size:=by omega
  refine⟨v,by rw[iD,bM nW,bz],?_⟩;have Nw:vs.getD i undef=v:=by simp[er,bz]
  cases eF with
  | one c=>
   refine tM.sat cJ fun k es post al=>?_
   have:=Fi (args:=args) (vs:=vs) (i:=i) (j:=0) (by omega) kR (k:=k) (es:=es) (post:=post) (by simp[GA.cell,al]);rw[this,Nw];subst al;have aH:bQ w ω (Tag.own (e4 i 0)).R (.J k es) v:=cJ;obtain⟨b,c,rfl⟩:=aH.len;rfl
  | agg cs=>
   obtain⟨us,rfl,hlen,nU⟩:=cJ;refine⟨us,rfl,by rw[Pt];exact hlen,fun j l ap=>?_⟩;rw[Ps,bX]at ap;obtain⟨c,al,rfl⟩:=ap;rw[dF];obtain⟨u,hu,cJ⟩:=nU j c al;have bg:j<100:=by
    have h1:=fx.1 dX _ (fl kR);simp only[cW]at h1;have:=(fy.1 al).1;omega
   refine⟨u,hu,tM.sat cJ fun k es post e=>?_⟩;rw[Fi (args:=args) (vs:=vs) bg kR (k:=k) (es:=es) (post:=post) (by simp only[GA.cell,al,e]),Nw];simp[cellOf,Value.cells,er,hu]
 rename_i hi;rw[AZ]at hp;split at hp
 ·rename_i bJ;simp only[aS]at hp;subst hp;refine⟨undef,?_,aa⟩;rw[iD,bG (by omega),Array.getElem?_replicate,bM (by omega)]
 cases hp
end Go.Sx
namespace Go.Sx
open Go.RowKit
def eC.found(t:Nat):eC->Option az->eC×hg
 | .ro d,_=>(.ro d,[])
 | .eV k es (some _),some (.J (.own s) ch ck)=>if s=t/\ch=k then (.eV k es (some ck),[(t,t)]) else (.eV k es none,[])
 | .eV k es _,_=>(.eV k es none,[])
def mf(i:Nat):Nat->List eC->List az->List eC×hg
 | _,[],_=>([],[])
 | j,c::cs,ls=>((c.found (e4 i j) ls.head?).1::(mf i (j+1) cs ls.tail).1,(c.found (e4 i j) ls.head?).2++(mf i (j+1) cs ls.tail).2)
def GA.found(i:Nat):GA->aE->GA×hg
 | .one c,p=>(.one (c.found (e4 i 0) p.leaf).1,(c.found (e4 i 0) p.leaf).2)
 | .agg cs,.aF (.agg ls)=>(.agg (mf i 0 cs ls).1,(mf i 0 cs ls).2)
 | .agg cs,_=>(.agg (mf i 0 cs []).1,(mf i 0 cs []).2)
def ke:Nat->List GA->List aE->List GA×hg
 | _,[],_=>([],[])
 | i,a::as,cn=>((a.found i (cn.headD .cj)).1::(ke (i+1) as cn.tail).1,(a.found i (cn.headD .cj)).2++(ke (i+1) as cn.tail).2)
theorem eC.Bv{t:Nat}{c:eC}{l:Option az}{k:Nat}{es ck:List (List D)}(h:(c.found t l).1=.eV k es (some ck)):l=some (.J (.own t) k ck)/\(t,t)∈(c.found t l).2:=by
 unfold eC.found at h ⊢;split at h
 ·cases h
 ·rename_i dq dx p s ch atp;split at h
  ·rename_i al;obtain⟨rfl,rfl⟩:=al;simp only[eC.eV.injEq,aS]at h;obtain⟨rfl,_,rfl⟩:=h;exact⟨rfl,by simp⟩
  cases h
 cases h
theorem IG(i:Nat):∀{cs:List eC} {ls:List az} {j x k:Nat} {es ck:List (List D)},(mf i j cs ls).1[x]?=some (.eV k es (some ck))->
  ls[x]?=some (.J (.own (e4 i (j+x))) k ck)/\(e4 i (j+x),e4 i (j+x))∈(mf i j cs ls).2
 | [],ls,j,x,k,es,ck,h=>by simp[mf]at h
 | c::cs,ls,j,0,k,es,ck,h=>by
  simp only[mf,kI,aS]at h;obtain⟨h1,U⟩:=eC.Bv h;refine⟨by cases ls<;>simp_all,?_⟩;simp only[mf];exact hP _ U
 | c::cs,ls,j,x+1,k,es,ck,h=>by
  simp only[mf,nD]at h;obtain⟨h1,U⟩:=IG i h;rw[show j+1+x=j+(x+1) by omega]at h1 U;refine⟨by cases ls<;>simp_all,?_⟩;simp only[mf];exact iC _ U
def wW(j:Nat):bm->Option az
 | .one l=>if j=0 then some l else none
 | .agg ls=>ls[j]?
theorem GA.Bv{i j:Nat}{a:GA}{p:aE}{k:Nat}{es ck:List (List D)}(h:(a.found i p).1.cell j=some (.eV k es (some ck))):
  ∃aF,p=.aF aF/\wW j aF=some (.J (.own (e4 i j)) k ck)/\(e4 i j,e4 i j)∈(a.found i p).2:=by
 cases a with
 | one c=>
  simp only[GA.found,GA.cell]at h ⊢;split at h
  ·rename_i bg;subst bg;simp only[aS]at h;obtain⟨h1,U⟩:=eC.Bv h;cases p with
   | fv as=>cases h1
   | aF a=>
    cases a with
    | agg ls=>cases h1
    | one l=>
     simp only[aE.leaf,aS]at h1;exact⟨_,rfl,by simp[wW,h1],U⟩
  cases h
 | agg cs=>
  have NR:∀q:List eC×hg,q=mf i 0 cs []->q.1[j]?=some (.eV k es (some ck))->False:=by
   rintro q rfl h;have:=(IG i h).1;simp at this
  cases p with
  | fv as=>exact (NR _ rfl h).elim
  | aF a=>
   cases a with
   | one l=>exact (NR _ rfl h).elim
   | agg ls=>
    simp only[GA.found,GA.cell]at h ⊢;obtain⟨h1,U⟩:=IG i h;rw[dF]at h1 U;exact⟨_,rfl,by simp[wW,h1],U⟩
theorem Pv:∀{as:List GA} {cn:List aE} {i x j:Nat} {a:GA} {k:Nat} {es ck:List (List D)},(ke i as cn).1[x]?=some a->a.cell j=some (.eV k es (some ck))->
  ∃aF,cn[x]?=some (.aF aF)/\wW j aF=some (.J (.own (e4 (i+x) j)) k ck)/\(e4 (i+x) j,e4 (i+x) j)∈(ke i as cn).2
 | [],cn,i,x,j,a,k,es,ck,h,_=>by simp[ke]at h
 | b::as,cn,i,0,j,a,k,es,ck,h,al=>by
  simp only[ke,kI,aS]at h;subst h;obtain⟨aF,h1,U,ax⟩:=GA.Bv al;refine⟨aF,?_,U,?_⟩
  ·cases cn with
   | nil=>
    simp only[List.headD_nil]at h1;cases h1;simp only[wW]at U;split at U<;>simp at U
   | cons p cn=>simpa using h1
  simp only[ke];exact hP _ ax
 | b::as,cn,i,x+1,j,a,k,es,ck,h,al=>by
  simp only[ke,nD]at h;obtain⟨aF,h1,U,ax⟩:=Pv h al;rw[show i+1+x=i+(x+1) by omega]at U ax;refine⟨aF,by cases cn<;>simp_all,U,?_⟩;simp only[ke];exact iC _ ax
def qE(P:Program)(st:aD)(iT:List ResultVar)(args:List GA)(hint:List cz):Option (List cz×List GA):=
 match iT.mapM (py P st) with
 | some cn=>
  match qF 0 cn hint with
  | some (ds,ts)=>if MB args&&Dq (ts++(ke 0 args st.env).2) then some (ds,(ke 0 args st.env).1) else none
  | none=>none
 | none=>none
theorem Pw{P:Program}{f:FuncId}{fn:Func}{c:Code}{args:List GA}{rs:List cz}{ans b':List b4}{obs:List Prop}{e:gQ}{st:aD}(b0:P.funcs[f]?=some fn)(aw:fn.body=some c)
  (e5:run P c (wh args fn.ntmps) ans=some (e,st,b',obs)) (aZ:cA obs) (he:e=.ret\/e=.normal) (eG:qE P st fn.results.toList args rs=some (rs,args)):kj P f args rs:=by
 intro w vs A1 ll o8;unfold qE at eG;split at eG
 ·rename_i cn rk;split at eG
  ·rename_i ds ts ey;split at eG
   ·rename_i cJ;simp only[aS,bq]at eG;obtain⟨rfl,WA⟩:=eG;rw[cF]at cJ;obtain⟨dX,cJ⟩:=cJ;refine calls_of_wp b0 aw (Code.wp_mono (fun e' cx aM hp=>?_) (mc c e5 aZ _ _ w (akd dX ll o8 fn.ntmps)));obtain⟨rfl,ω,τ,aU⟩:=hp;obtain⟨zs,h1,U,ax⟩:=CD aU rk;obtain⟨aJ,aY⟩:=Ds (w:=aM) (ω:=ω) (τ:=τ) (ts:=ts++(ke 0 args st.env).2) (fun t n h=>Dr cJ h) ey (fun x ak=>hP _ ak);have hm:=Cs (P:=P) _ fn.results aM _ h1;have eW:∀(j:Nat) (d:cz),ds[j]?=some d->∃z,zs[j]?=some z/\kZ aM (hG ω (ts++(ke 0 args st.env).2)) j d z:=by
     intro j d aG;obtain⟨p,hp,rj⟩:=aY j d aG;obtain⟨z,bl,p'⟩:=ax j p hp;exact⟨z,bl,by have:=rj z p';rwa[dF]at this⟩
    have l3:zs.length=ds.length:=by omega
    have hD:∀v,(if h:zs.toArray.size=1 then zs.toArray[0] else .tuple zs.toArray)=v->lB aM (hG ω (ts++(ke 0 args st.env).2)) ds v:=by
     intro v bz;unfold lB;split
     ·rename_i ci;obtain⟨z,bl,al⟩:=eW 0 ci rfl;have h1:zs.length=1:=by rw[l3];rfl
      have p9:zs=[z]:=by
       match zs,h1,bl with
       | [z0],_,bl=>simp at bl;rw[bl]
      have Gi:v=z:=by
       rw[<-bz];simp[p9]
      rw[Gi];exact al
     rename_i c3;have h1:¬zs.toArray.size=1:=by
      intro h;simp at h;rw[l3]at h;obtain⟨d,aG⟩:=List.length_eq_one_iff.1 h;exact c3 d aG
     rw[dif_neg h1]at bz;exact⟨zs.toArray,bz.symm,by simpa using l3,fun r ci aH=>by obtain⟨z,bl,al⟩:=eW r ci aH;exact⟨z,by simpa using bl,al⟩⟩
    have FY:Kept aM (hG ω (ts++(ke 0 args st.env).2)) args vs:=by
     intro i j eF k es ck kR al;have WE:(ke 0 args st.env).1[i]?=some eF:=by rw[WA];exact kR
     obtain⟨aF,bx,bN,db⟩:=Pv WE al;rw[dF]at bN db;obtain⟨v,bz,ai⟩:=aU.env i _ bx;have ei:∃u,Sat aM ω τ (.J (.own (e4 i j)) k ck) u:=by
      cases aF with
      | one l=>
       simp only[wW]at bN;split at bN
       ·simp only[aS]at bN;exact⟨v,bN▸ai⟩
       cases bN
      | agg ls=>
       obtain⟨us,_,_,hu⟩:=ai;obtain⟨u,_,dQ⟩:=hu j _ bN;exact⟨u,dQ⟩
     obtain⟨u,aH,bH⟩:=ei;have bg:j<100:=by
      cases eF with
      | one c=>simp only[GA.cell]at al;split at al<;>first | omega | cases al
      | agg cs=>
       have h1:=fx.1 dX _ (fl kR);simp only[cW]at h1;have:=(fy.1 al).1;omega
     have sx:=aU.fixed (e4 i j) (by simp[e4]);have WH:=Fi (args:=args) (vs:=vs) bg kR al;have:u=cellOf (vs.getD i undef) j:=by
      have dQ:τ (e4 i j)=(k,u):=bH;rw[sx]at dQ;have dy:xU args vs (e4 i j)=(k,u):=dQ;rw[WH]at dy;exact (Prod.mk.inj dy).2.symm
     subst this;refine aH.frame fun b q _ aK=>⟨?_,rfl⟩
     simp only[Tag.R]at aK ⊢;have:=Dr cJ (iC ts db);simp only[hG,aK,this]
    have dG:∃v,(results fn cx.tmps).run P aM=.ok v aM/\∃u,Ending.returned v=.returned u/\fO ⟨w,fun b=>A1 b≠.bt,fun _=>(0,undef)⟩ aM/\
      ∃a7:Own,(∀b,b<w.heap.size->A1 b=.bt->a7 b=.bt)/\(∀b,a7 b≠.bt->(∃t q,a7 b=.tok t q)/\∃arr ty,aM.heap[b]?=some (.cells arr ty (0,0)))/\Kept aM a7 args vs/\lB aM a7 ds u:=by
     refine⟨_,?_,_,rfl,⟨aU.below.os,aU.below.tape,aU.below.output,aU.below.size,aU.below.block,aU.below.drawn,aU.below.laid,aU.below.free⟩,hG ω (ts++(ke 0 args st.env).2),fun b aw av=>?_,fun b aw=>?_,FY,hD _ rfl⟩
     ·rw[IA,Sem.run_bind,hm];rfl
     ·cases c7:ω b with
      | bt=>simp[hG,c7]
      | box id=>simp[hG,c7]
      | tok t q=>
       rcases (aU.owned b (by simp[c7])).1 with h | h
       ·exact absurd aw (by have h:w.heap.size<=b:=h;omega)
       exact absurd av h
     cases c7:ω b with
     | bt=>simp[hG,c7]at aw
     | box id=>simp[hG,c7]at aw
     | tok t q=>
      refine⟨?_,(aU.owned b (by simp[c7])).2⟩;simp only[hG,c7]at aw ⊢;cases jA:(ts++(ke 0 args st.env).2).at t with
      | none=>simp[jA]at aw
      | some n=>exact⟨n,q,rfl⟩
    obtain⟨v,bx,bN⟩:=dG;rcases he with rfl | rfl
    ·exact⟨aU.defers,v,bx,bN⟩
    exact⟨aU.defers,v,bx,bN⟩
   cases eG
  cases eG
 cases eG
def Hk(P:Program)(c:Code)(ntmps:Nat)(iT:List ResultVar)(args:List GA)(hint:List cz)(ans:List b4):Option (List cz×List GA×List Prop):=
 match run P c (wh args ntmps) ans with
 | some (.ret,st,_,obs)=>(qE P st iT args hint).map fun rs=>(rs.1,rs.2,obs)
 | some (.normal,st,_,obs)=>(qE P st iT args hint).map fun rs=>(rs.1,rs.2,obs)
 | _=>none
theorem kj.of{P:Program}{f:FuncId}{fn:Func}{args:List GA}{rs:List cz}(ans:List b4)(obs:List Prop)(b0:P.funcs[f]?=some fn)(aw:fn.body.isSome=true)
  (h:Hk P (me fn) fn.ntmps fn.results.toList args rs ans=some (rs,args,obs)) (aZ:cA obs):kj P f args rs:=by
 obtain⟨c,al⟩:=pQ.1 aw;have yd:me fn=c:=by simp[me,al]
 unfold Hk at h;rw[yd]at h;split at h
 ·rename_i st a lr aH;rw[bX]at h;obtain⟨⟨xg,K4⟩,h1,h⟩:=h;simp only[bq]at h;obtain⟨rfl,rfl,rfl⟩:=h;exact Pw b0 al aH aZ (.inl rfl) h1
 ·rename_i st a lr aH;rw[bX]at h;obtain⟨⟨xg,K4⟩,h1,h⟩:=h;simp only[bq]at h;obtain⟨rfl,rfl,rfl⟩:=h;exact Pw b0 al aH aZ (.inr rfl) h1
 cases h
end Go.Sx
namespace Go.Sx
open Go.RowKit
def fK(es:List (List Value)):List (List D):=es.map (·.map .v)
theorem CH(es:List (List Value)):(fK es).length=es.length:=by simp[fK]
variable{es:List (List Value)}
theorem Px{i j:Nat}{d:D}(h:cQ (fK es) i j=some d):∃e v,es[i]?=some e/\e[j]?=some v/\d=.v v:=by
 unfold cQ fK at h;rw[dr]at h;cases e1:es[i]? with
 | none=>simp[e1]at h
 | some e=>
  simp only[e1,qL,ox,dr,bX]at h;obtain⟨v,h1,rfl⟩:=h;exact⟨e,v,rfl,h1,rfl⟩
theorem Ff{i j:Nat}{e:List Value}{v:Value}(h1:es[i]?=some e)(U:e[j]?=some v):cQ (fK es) i j=some (.v v):=by
 simp[cQ,fK,h1,U]
structure Row (w:World) (b off k cap:Nat) (arr:Array Value) (ty:TypeId) (es:List (List Value)):Prop where
 heap:w.heap[b]?=some (.cells arr ty (0,0))
 room:es.length<=cap
 fit:off+cap*k<=arr.size
 len:∀e∈es,e.length=k
 one:∀e∈es,∀v∈e,v.oneCell'=true
 cell:∀i j e v,es[i]?=some e->e[j]?=some v->arr[off+i*k+j]?=some v
variable{w:World}{k:Nat}{ω:Own}
theorem Row.rep{b off cap:Nat}{arr:Array Value}{ty:TypeId}(h:Row w b off k cap arr ty es){R:List (Nat×Nat)->c0->Prop}(dG:R [] (ω b)):
  bQ w ω R (.J k (fK es)) (.slice (some ⟨b,off,none⟩) es.length cap):=by
 have:=bQ.row (w:=w) (ω:=ω) R k (fK es) b off cap arr ty (0,0) (fun i j=>arr.getD (off+i*k+j) undef) h.heap dG (by rw[CH];exact h.room) h.fit
  (by intro e he;simp only[fK,lJ]at he;obtain⟨bB,b5,rfl⟩:=he;simpa using h.len bB b5)
  (by
   intro i j d aG;obtain⟨e,v,h1,U,rfl⟩:=Px aG;have:=h.cell i j e v h1 U;simp[er,this])
  (by
   intro i j d aG;obtain⟨e,v,h1,U,rfl⟩:=Px aG;have ax:=h.cell i j e v h1 U;have:arr.getD (off+i*k+j) undef=v:=by simp[er,ax]
   rw[this];exact .v _ _ (h.one e (fl h1) v (fl U)))
 rwa[CH]at this
theorem EV.row{w:World}{ω:Own}(av:EV w ω){t:Nat}{y:Value}(h:bQ w ω (Tag.own t).R (.J k (fK es)) y):
  (es=[]/\∃a,y=.slice a 0 0)\/∃b off cap arr ty,ω b=.tok t []/\y=.slice (some ⟨b,off,none⟩) es.length cap/\Row w b off k cap arr ty es:=by
 generalize aG:D.J k (fK es)=d at h;cases h with
 | nil R k a=>
  simp only[D.J.injEq]at aG;exact .inl ⟨by simpa[fK]using aG.2,a,rfl⟩
 | row R k ck b off cap arr ty cL us aw dG al ai hk hu eb=>
  simp only[D.J.injEq]at aG;obtain⟨rfl,rfl⟩:=aG;simp only[Tag.R]at dG;obtain⟨_,b9,pN,ax⟩:=av b (by rw[dG];simp);rw[aw]at ax;simp only[aS,Obj.cells.injEq]at ax;obtain⟨rfl,rfl,rfl⟩:=ax;refine .inr ⟨b,off,cap,arr,ty,dG,by rw[CH],aw,by rwa[CH]at al,ai,fun e he=>?_,fun e he v bz=>?_,fun i j e v h1 U=>?_⟩
  ·have:=hk (e.map .v) (by simp only[fK,lJ];exact⟨e,he,rfl⟩);simpa using this
  ·obtain⟨i,hi⟩:=ow.1 he;obtain⟨j,bg⟩:=ow.1 bz;have:=eb i j (.v v) (Ff hi bg);generalize us i j=u at this;cases this with
   | v _ _ h1=>exact h1
  have ax:=hu i j (.v v) (Ff h1 U);have aJ:=eb i j (.v v) (Ff h1 U);generalize us i j=u at ax aJ;cases aJ with
  | v=>exact ax
 | v=>cases aG
 | ptr=>cases aG
 | cl=>cases aG
structure EW (w aM:World) (own:Nat->Prop) (k:Nat) (es:List (List Value)) (v:Value):Prop where
 VB:tL ⟨w,own,fun _=>(0,undef)⟩ aM
 row:(es=[]/\∃a,v=.slice a 0 0)\/∃b off cap arr ty,(own b\/w.heap.size<=b)/\v=.slice (some ⟨b,off,none⟩) es.length cap/\Row aM b off k cap arr ty es
theorem EW.res{aM:World}{v:Value}(h:EW w aM (fun b=>ω b≠.bt) k es v):
  ∃a7:Own,(∀b,b<w.heap.size->ω b=.bt->a7 b=.bt)/\(∀b,a7 b≠.bt->(∃t q,a7 b=.tok t q)/\∃arr ty,aM.heap[b]?=some (.cells arr ty (0,0)))/\lB aM a7 [.one (.J k (fK es))] v:=by
 rcases h.row with⟨rfl,a,rfl⟩ | ⟨b,off,cap,arr,ty,aZ,rfl,aH⟩
 ·exact⟨fun _=>.bt,fun _ _ _=>rfl,fun b aw=>absurd rfl aw,bQ.nil _ k a⟩
 refine⟨fun c=>if c=b then .tok 0 [] else .bt,fun c al he=>?_,fun c al=>?_,?_⟩
 ·by_cases e:c=b
  ·subst e;rcases aZ with aZ | aZ
   ·exact absurd he aZ
   omega
  simp only[bG e]
 ·by_cases e:c=b
  ·subst e;exact⟨⟨0,[],by simp⟩,arr,ty,aH.heap⟩
  simp only[bG e]at al;exact absurd rfl al
 exact aH.rep (R:=(Tag.own 0).R) (by simp[Tag.R])
def D.Ai:D->Value
 | .v x=>x
 | _=>undef
theorem Vz{vs:Array Value}{a b c:Value}(h:vs.size=3)(b5:vs[0]?=some a)(h1:vs[1]?=some b)(U:vs[2]?=some c):vs=#[a,b,c]:=by
 apply Array.ext
 ·simpa using h
 intro i hi _;have nW:i<3:=by omega
 match i,nW with
 | 0,_=>simpa[k9 hi]using b5
 | 1,_=>simpa[k9 hi]using h1
 | 2,_=>simpa[k9 hi]using U
theorem bQ.VP{R:List (Nat×Nat)->c0->Prop}{x y:Value}(h:bQ w ω R (.v x) y):y=x:=by
 cases h;rfl
theorem ake{args:List GA}{vs:Array Value}(h:∀(i j:Nat) (eF:GA) (k:Nat) (es ck:List (List D)),args[i]?=some eF->eF.cell j=some (.eV k es (some ck))->False):Kept w ω args vs:=
 fun i j eF k es ck h1 U=>(h i j eF k es ck h1 U).elim
@[simp] theorem setRow_drawn (w : World) (b : Nat) (cs : Array Value) : (w.setRow b cs).drawn = w.drawn := rfl
theorem akf{own:Nat->Prop}{b:Nat}(aw:own b)(fD ES:Array Value):tL ⟨w,own,fun _=>(0,undef)⟩ ((w.drew.setRow b fD).setRow b ES):=by
 refine⟨rfl,rfl,rfl,by simp,fun k hk av=>?_,?_⟩
 ·have:k≠b:=fun e=>av (by rw[e];exact aw)
  rw[setRow_other _ b k _ this,setRow_other _ b k _ this];rfl
 intro _;show w.drawn<=w.drawn+1;omega
