import Derived.Test.YtdchjefneblpgaaGreatR15
set_option linter.unusedVariables false
set_option linter.unusedSimpArgs false
namespace Go.Sx
open Go.RowKit
def eZ.leaf(t:Nat):eZ->aF
 | .ro d=>d.leaf .free
 | .fk k es _=>.J (.own t) k es
def vK(i:Nat):Nat->List eZ->List aF
 | _,[]=>[]
 | j,c::cs=>c.leaf (fM i j)::vK i (j+1) cs
def GA.aG(i:Nat):GA->bl
 | .one c=>.one (c.leaf (fM i 0))
 | .agg cs=>.agg (vK i 0 cs)
def uS:Nat->List GA->List aI
 | _,[]=>[]
 | i,a::as=>.aG (a.aG i)::uS (i+1) as
def zo(args:List GA)(ntmps:Nat):aC:=⟨uS 0 args++List.replicate (ntmps-args.length) .cp,[]⟩
def eZ.post:eZ->aF->eZ
 | .fk k es (some _),.J (.own _) ch cD=>if ch=k then .fk k es (some cD) else .fk k es none
 | .fk k es _,_=>.fk k es none
 | c,_=>c
def Q0(args:List GA):Bool:=args.all fun | .one _=>true | .agg cs=>decide (cs.length<=100)
def Q1(args:List GA)(t:Nat):Nat:=
 match (args[(t-dj) / 100]?).bind (GA.cell ((t-dj) % 100)) with
 | some (.fk k _ _)=>k
 | _=>0
def Ba(args:List GA)(vs:Array Value)(t:Nat):Nat×Value:=(Q1 args t,cellOf (vs.getD ((t-dj) / 100) undef) ((t-dj) % 100))
theorem Jj{args:List GA}{vs:Array Value}{i j:Nat}(bk:j<100){fi:GA}(ai:args[i]?=some fi){k:Nat}{es:List (List D)}{post:Option (List (List D))}(ak:fi.cell j=some (.fk k es post)):
  Ba args vs (fM i j)=(k,cellOf (vs.getD i undef) j):=by
 have e1:(fM i j-dj) / 100=i:=by simp only[fM];omega
 have e2:(fM i j-dj) % 100=j:=by simp only[fM];omega
 simp only[Ba,Q1,e1,e2,ai,qG,ak]
theorem TM(i:Nat):∀(cs:List eZ) (j x:Nat),(vK i j cs)[x]?=(cs[x]?).map fun c=>c.leaf (fM i (j+x))
 | [],j,x=>by simp[vK]
 | c::cs,j,0=>by simp[vK]
 | c::cs,j,x+1=>by
  simp only[vK,pR,TM i cs (j+1) x];rw[show j+1+x=j+(x+1) by omega]
theorem TN(i:Nat):∀(cs:List eZ) (j:Nat),(vK i j cs).length=cs.length
 | [],_=>rfl
 | c::cs,j=>by simp[vK,TN i cs (j+1)]
theorem TO:∀(as:List GA) (i x:Nat),(uS i as)[x]?=(as[x]?).map fun a=>.aG (a.aG (i+x))
 | [],i,x=>by simp[uS]
 | a::as,i,0=>by simp[uS]
 | a::as,i,x+1=>by
  simp only[uS,pR,TO as (i+1) x];rw[show i+1+x=i+(x+1) by omega]
theorem Mt:∀(as:List GA) (i:Nat),(uS i as).length=as.length
 | [],_=>rfl
 | a::as,i=>by simp[uS,Mt as (i+1)]
theorem wA.sat{w:World}{ω:Own}{τ:Nat->Nat×Value}{t:Nat}{c:eZ}{y:Value}(h:wA w ω t c y)(tP:∀k es post,c=.fk k es post->τ t=(k,y)):Sat w ω τ (c.leaf t) y:=by
 cases c with
 | ro d=>exact D.dS (t:=.free) (p:=(0,0)) h
 | fk k es post=>exact⟨h,tP k es post rfl⟩
theorem axs{w:World}{ω:Own}{args:List GA}{vs:Array Value}(er:Q0 args=true)(h:IX w ω args vs)(o6:Tidy w ω)(ntmps:Nat):
  Rel ⟨w,fun b=>ω b≠.bM,Ba args vs⟩ (zo args ntmps) { tmps:=vs++Array.replicate (ntmps-vs.size) undef,defers:=[] } w:=by
 obtain⟨ax,aZ,ai⟩:=h;refine⟨ω,Ba args vs,rfl,by simp[zo,aZ,Mt],hd.start o6,fun b aw=>⟨.inr aw,(ax b aw).2⟩,fun _ _=>rfl,(fun id b _ aw=>by
  obtain⟨⟨t,q,e,_⟩,_⟩:=ax b (by rw[aw];simp);rw[aw]at e;cases e),?_,fun id ls al=>by simp[zo,dI]at al⟩
 intro i p hp;simp only[zo]at hp;rw[qE,Mt]at hp;split at hp
 ·rename_i hi;rw[TO,b9]at hp;obtain⟨fi,jt,rfl⟩:=hp;rw[dV];obtain⟨v,bI,bW⟩:=ai i fi jt;have qb:i<vs.size:=by omega
  refine⟨v,by rw[kc,bn qb,bI],?_⟩;have RQ:vs.getD i undef=v:=by simp[e7,bI]
  cases fi with
  | one c=>
   refine wA.sat bW fun k es post ak=>?_
   have:=Jj (args:=args) (vs:=vs) (i:=i) (j:=0) (by omega) jt (k:=k) (es:=es) (post:=post) (by simp[GA.cell,ak]);rw[this,RQ];subst ak;have aD:b4 w ω (Tag.own (fM i 0)).R (.J k es) v:=bW;obtain⟨b,c,rfl⟩:=aD.len;rfl
  | agg cs=>
   obtain⟨us,rfl,hlen,ob⟩:=bW;refine⟨us,rfl,by rw[TN];exact hlen,fun j l al=>?_⟩;rw[TM,b9]at al;obtain⟨c,ak,rfl⟩:=al;rw[dV];obtain⟨u,hu,bW⟩:=ob j c ak;have bk:j<100:=by
    have h1:=gA.1 er _ (gb jt);simp only[ck]at h1;have:=(gk.1 ak).1;omega
   refine⟨u,hu,wA.sat bW fun k es post e=>?_⟩;rw[Jj (args:=args) (vs:=vs) bk jt (k:=k) (es:=es) (post:=post) (by simp only[GA.cell,ak,e]),RQ];simp[cellOf,Value.cells,e7,hu]
 rename_i hi;rw[Eo]at hp;split at hp
 ·rename_i bS;simp only[aX]at hp;subst hp;refine⟨undef,?_,aa⟩;rw[kc,bw (by omega),Array.getElem?_replicate,bn (by omega)]
 cases hp
end Go.Sx
namespace Go.Sx
open Go.RowKit
def eZ.found(t:Nat):eZ->Option aF->eZ×iF
 | .ro d,_=>(.ro d,[])
 | .fk k es (some _),some (.J (.own s) ch cD)=>if s=t/\ch=k then (.fk k es (some cD),[(t,t)]) else (.fk k es none,[])
 | .fk k es _,_=>(.fk k es none,[])
def oz(i:Nat):Nat->List eZ->List aF->List eZ×iF
 | _,[],_=>([],[])
 | j,c::cs,ls=>((c.found (fM i j) ls.head?).1::(oz i (j+1) cs ls.tail).1,(c.found (fM i j) ls.head?).2++(oz i (j+1) cs ls.tail).2)
def GA.found(i:Nat):GA->aI->GA×iF
 | .one c,p=>(.one (c.found (fM i 0) p.leaf).1,(c.found (fM i 0) p.leaf).2)
 | .agg cs,.aG (.agg ls)=>(.agg (oz i 0 cs ls).1,(oz i 0 cs ls).2)
 | .agg cs,_=>(.agg (oz i 0 cs []).1,(oz i 0 cs []).2)
def l2:Nat->List GA->List aI->List GA×iF
 | _,[],_=>([],[])
 | i,a::as,cz=>((a.found i (cz.headD .cp)).1::(l2 (i+1) as cz.tail).1,(a.found i (cz.headD .cp)).2++(l2 (i+1) as cz.tail).2)
theorem eZ.ES{t:Nat}{c:eZ}{l:Option aF}{k:Nat}{es cD:List (List D)}(h:(c.found t l).1=.fk k es (some cD)):l=some (.J (.own t) k cD)/\(t,t)∈(c.found t l).2:=by
 unfold eZ.found at h ⊢;split at h
 ·cases h
 ·rename_i dm dR p s ch aCv;split at h
  ·rename_i ak;obtain⟨rfl,rfl⟩:=ak;simp only[eZ.fk.injEq,aX]at h;obtain⟨rfl,_,rfl⟩:=h;exact⟨rfl,by simp⟩
  cases h
 cases h
theorem Mu(i:Nat):∀{cs:List eZ} {ls:List aF} {j x k:Nat} {es cD:List (List D)},(oz i j cs ls).1[x]?=some (.fk k es (some cD))->
  ls[x]?=some (.J (.own (fM i (j+x))) k cD)/\(fM i (j+x),fM i (j+x))∈(oz i j cs ls).2
 | [],ls,j,x,k,es,cD,h=>by simp[oz]at h
 | c::cs,ls,j,0,k,es,cD,h=>by
  simp only[oz,mE,aX]at h;obtain⟨h1,U⟩:=eZ.ES h;refine⟨by cases ls<;>simp_all,?_⟩;simp only[oz];exact hD _ U
 | c::cs,ls,j,x+1,k,es,cD,h=>by
  simp only[oz,pR]at h;obtain⟨h1,U⟩:=Mu i h;rw[show j+1+x=j+(x+1) by omega]at h1 U;refine⟨by cases ls<;>simp_all,?_⟩;simp only[oz];exact iC _ U
def Ah(j:Nat):bl->Option aF
 | .one l=>if j=0 then some l else none
 | .agg ls=>ls[j]?
theorem GA.ES{i j:Nat}{a:GA}{p:aI}{k:Nat}{es cD:List (List D)}(h:(a.found i p).1.cell j=some (.fk k es (some cD))):
  ∃aG,p=.aG aG/\Ah j aG=some (.J (.own (fM i j)) k cD)/\(fM i j,fM i j)∈(a.found i p).2:=by
 cases a with
 | one c=>
  simp only[GA.found,GA.cell]at h ⊢;split at h
  ·rename_i bk;subst bk;simp only[aX]at h;obtain⟨h1,U⟩:=eZ.ES h;cases p with
   | gx as=>cases h1
   | aG a=>
    cases a with
    | agg ls=>cases h1
    | one l=>
     simp only[aI.leaf,aX]at h1;exact⟨_,rfl,by simp[Ah,h1],U⟩
  cases h
 | agg cs=>
  have Sc:∀q:List eZ×iF,q=oz i 0 cs []->q.1[j]?=some (.fk k es (some cD))->False:=by
   rintro q rfl h;have:=(Mu i h).1;simp at this
  cases p with
  | gx as=>exact (Sc _ rfl h).elim
  | aG a=>
   cases a with
   | one l=>exact (Sc _ rfl h).elim
   | agg ls=>
    simp only[GA.found,GA.cell]at h ⊢;obtain⟨h1,U⟩:=Mu i h;rw[dV]at h1 U;exact⟨_,rfl,by simp[Ah,h1],U⟩
theorem TP:∀{as:List GA} {cz:List aI} {i x j:Nat} {a:GA} {k:Nat} {es cD:List (List D)},(l2 i as cz).1[x]?=some a->a.cell j=some (.fk k es (some cD))->
  ∃aG,cz[x]?=some (.aG aG)/\Ah j aG=some (.J (.own (fM (i+x) j)) k cD)/\(fM (i+x) j,fM (i+x) j)∈(l2 i as cz).2
 | [],cz,i,x,j,a,k,es,cD,h,_=>by simp[l2]at h
 | b::as,cz,i,0,j,a,k,es,cD,h,ak=>by
  simp only[l2,mE,aX]at h;subst h;obtain⟨aG,h1,U,aA⟩:=GA.ES ak;refine⟨aG,?_,U,?_⟩
  ·cases cz with
   | nil=>
    simp only[List.headD_nil]at h1;cases h1;simp only[Ah]at U;split at U<;>simp at U
   | cons p cz=>simpa using h1
  simp only[l2];exact hD _ aA
 | b::as,cz,i,x+1,j,a,k,es,cD,h,ak=>by
  simp only[l2,pR]at h;obtain⟨aG,h1,U,aA⟩:=TP h ak;rw[show i+1+x=i+(x+1) by omega]at U aA;refine⟨aG,by cases cz<;>simp_all,U,?_⟩;simp only[l2];exact iC _ aA
def rV(P:Program)(st:aC)(kt:List ResultVar)(args:List GA)(hint:List cP):Option (List cP×List GA):=
 match kt.mapM (rH P st) with
 | some cz=>
  match s5 0 cz hint with
  | some (ds,ts)=>if Q0 args&&FI (ts++(l2 0 args st.env).2) then some (ds,(l2 0 args st.env).1) else none
  | none=>none
 | none=>none
theorem Tg{P:Program}{f:FuncId}{fn:Func}{c:Code}{args:List GA}{rs:List cP}{ans cu:List cd}{obs:List Prop}{e:hV}{st:aC}(bF:P.funcs[f]?=some fn)(aw:fn.body=some c)
  (fN:run P c (zo args fn.ntmps) ans=some (e,st,cu,obs)) (a7:cQ obs) (he:e=.ret\/e=.normal) (fl:rV P st fn.results.toList args rs=some (rs,args)):kY P f args rs:=by
 intro w vs Es ny o6;unfold rV at fl;split at fl
 ·rename_i cz tJ;split at fl
  ·rename_i ds ts fc;split at fl
   ·rename_i bW;simp only[aX,bK]at fl;obtain⟨rfl,acs⟩:=fl;rw[cw]at bW;obtain⟨er,bW⟩:=bW;refine calls_of_wp bF aw (Code.wp_mono (fun e' cO aP hp=>?_) (ox c fN a7 _ _ w (axs er ny o6 fn.ntmps)));obtain⟨rfl,ω,τ,a6⟩:=hp;obtain⟨zs,h1,U,aA⟩:=FL a6 tJ;obtain⟨aJ,a'⟩:=FK (w:=aP) (ω:=ω) (τ:=τ) (ts:=ts++(l2 0 args st.env).2) (fun t n h=>FJ bW h) fc (fun x af=>hD _ af);have hm:=Gj (P:=P) _ fn.results aP _ h1;have fw:∀(j:Nat) (d:cP),ds[j]?=some d->∃z,zs[j]?=some z/\mW aP (jd ω (ts++(l2 0 args st.env).2)) j d z:=by
     intro j d aE;obtain⟨p,hp,tI⟩:=a' j d aE;obtain⟨z,bd,qh⟩:=aA j p hp;exact⟨z,bd,by have:=tI z qh;rwa[dV]at this⟩
    have mU:zs.length=ds.length:=by omega
    have iY:∀v,(if h:zs.toArray.size=1 then zs.toArray[0] else .tuple zs.toArray)=v->nH aP (jd ω (ts++(l2 0 args st.env).2)) ds v:=by
     intro v bI;unfold nH;split
     ·rename_i cy;obtain⟨z,bd,ak⟩:=fw 0 cy rfl;have h1:zs.length=1:=by rw[mU];rfl
      have sw:zs=[z]:=by
       match zs,h1,bd with
       | [z0],_,bd=>simp at bd;rw[bd]
      have Kk:v=z:=by
       rw[<-bI];simp[sw]
      rw[Kk];exact ak
     rename_i cX;have h1:¬zs.toArray.size=1:=by
      intro h;simp at h;rw[mU]at h;obtain⟨d,aE⟩:=List.length_eq_one_iff.1 h;exact cX d aE
     rw[dif_neg h1]at bI;exact⟨zs.toArray,bI.symm,by simpa using mU,fun r cy aD=>by obtain⟨z,bd,ak⟩:=fw r cy aD;exact⟨z,by simpa using bd,ak⟩⟩
    have JZ:Kept aP (jd ω (ts++(l2 0 args st.env).2)) args vs:=by
     intro i j fi k es cD jt ak;have acw:(l2 0 args st.env).1[i]?=some fi:=by rw[acs];exact jt
     obtain⟨aG,bu,b1,dy⟩:=TP acw ak;rw[dV]at b1 dy;obtain⟨v,bI,ao⟩:=a6.env i _ bu;have e0:∃u,Sat aP ω τ (.J (.own (fM i j)) k cD) u:=by
      cases aG with
      | one l=>
       simp only[Ah]at b1;split at b1
       ·simp only[aX]at b1;exact⟨v,b1▸ao⟩
       cases b1
      | agg ls=>
       obtain⟨us,_,_,hu⟩:=ao;obtain⟨u,_,eu⟩:=hu j _ b1;exact⟨u,eu⟩
     obtain⟨u,aD,bN⟩:=e0;have bk:j<100:=by
      cases fi with
      | one c=>simp only[GA.cell]at ak;split at ak<;>first | omega | cases ak
      | agg cs=>
       have h1:=gA.1 er _ (gb jt);simp only[ck]at h1;have:=(gk.1 ak).1;omega
     have u6:=a6.fixed (fM i j) (by simp[fM]);have acy:=Jj (args:=args) (vs:=vs) bk jt ak;have:u=cellOf (vs.getD i undef) j:=by
      have eu:τ (fM i j)=(k,u):=bN;rw[u6]at eu;have dX:Ba args vs (fM i j)=(k,u):=eu;rw[acy]at dX;exact (Prod.mk.inj dX).2.symm
     subst this;refine aD.frame fun b q _ aH=>⟨?_,rfl⟩
     simp only[Tag.R]at aH ⊢;have:=FJ bW (iC ts dy);simp only[jd,aH,this]
    have ed:∃v,(results fn cO.tmps).run P aP=.ok v aP/\∃u,Ending.returned v=.returned u/\hd ⟨w,fun b=>Es b≠.bM,fun _=>(0,undef)⟩ aP/\
      ∃bf:Own,(∀b,b<w.heap.size->Es b=.bM->bf b=.bM)/\(∀b,bf b≠.bM->(∃t q,bf b=.tok t q)/\∃arr ty,aP.heap[b]?=some (.cells arr ty (0,0)))/\Kept aP bf args vs/\nH aP bf ds u:=by
     refine⟨_,?_,_,rfl,⟨a6.below.os,a6.below.tape,a6.below.output,a6.below.size,a6.below.block,a6.below.drawn,a6.below.laid,a6.below.free⟩,jd ω (ts++(l2 0 args st.env).2),fun b aw ax=>?_,fun b aw=>?_,JZ,iY _ rfl⟩
     ·rw[Mo,Sem.run_bind,hm];rfl
     ·cases dt:ω b with
      | bM=>simp[jd,dt]
      | box id=>simp[jd,dt]
      | tok t q=>
       rcases (a6.owned b (by simp[dt])).1 with h | h
       ·exact absurd aw (by have h:w.heap.size<=b:=h;omega)
       exact absurd ax h
     cases dt:ω b with
     | bM=>simp[jd,dt]at aw
     | box id=>simp[jd,dt]at aw
     | tok t q=>
      refine⟨?_,(a6.owned b (by simp[dt])).2⟩;simp only[jd,dt]at aw ⊢;cases k5:(ts++(l2 0 args st.env).2).at t with
      | none=>simp[k5]at aw
      | some n=>exact⟨n,q,rfl⟩
    obtain⟨v,bu,b1⟩:=ed;rcases he with rfl | rfl
    ·exact⟨a6.defers,v,bu,b1⟩
    exact⟨a6.defers,v,bu,b1⟩
   cases fl
  cases fl
 cases fl
def Lb(P:Program)(c:Code)(ntmps:Nat)(kt:List ResultVar)(args:List GA)(hint:List cP)(ans:List cd):Option (List cP×List GA×List Prop):=
 match run P c (zo args ntmps) ans with
 | some (.ret,st,_,obs)=>(rV P st kt args hint).map fun rs=>(rs.1,rs.2,obs)
 | some (.normal,st,_,obs)=>(rV P st kt args hint).map fun rs=>(rs.1,rs.2,obs)
 | _=>none
theorem kY.of{P:Program}{f:FuncId}{fn:Func}{args:List GA}{rs:List cP}(ans:List cd)(obs:List Prop)(bF:P.funcs[f]?=some fn)(aw:fn.body.isSome=true)
  (h:Lb P (oy fn) fn.ntmps fn.results.toList args rs ans=some (rs,args,obs)) (a7:cQ obs):kY P f args rs:=by
 obtain⟨c,ak⟩:=r2.1 aw;have Bw:oy fn=c:=by simp[oy,ak]
 unfold Lb at h;rw[Bw]at h;split at h
 ·rename_i st a nF aD;rw[b9]at h;obtain⟨⟨AF,Po⟩,h1,h⟩:=h;simp only[bK]at h;obtain⟨rfl,rfl,rfl⟩:=h;exact Tg bF ak aD a7 (.inl rfl) h1
 ·rename_i st a nF aD;rw[b9]at h;obtain⟨⟨AF,Po⟩,h1,h⟩:=h;simp only[bK]at h;obtain⟨rfl,rfl,rfl⟩:=h;exact Tg bF ak aD a7 (.inr rfl) h1
 cases h
end Go.Sx
namespace Go.Sx
open Go.RowKit
def gD(es:List (List Value)):List (List D):=es.map (·.map .v)
theorem G6(es:List (List Value)):(gD es).length=es.length:=by simp[gD]
variable{es:List (List Value)}
theorem Th{i j:Nat}{d:D}(h:df (gD es) i j=some d):∃e v,es[i]?=some e/\e[j]?=some v/\d=.v v:=by
 unfold df gD at h;rw[dK]at h;cases e1:es[i]? with
 | none=>simp[e1]at h
 | some e=>
  simp only[e1,tc,qG,dK,b9]at h;obtain⟨v,h1,rfl⟩:=h;exact⟨e,v,rfl,h1,rfl⟩
theorem Jh{i j:Nat}{e:List Value}{v:Value}(h1:es[i]?=some e)(U:e[j]?=some v):df (gD es) i j=some (.v v):=by
 simp[df,gD,h1,U]
structure Row (w:World) (b off k cap:Nat) (arr:Array Value) (ty:TypeId) (es:List (List Value)):Prop where
 heap:w.heap[b]?=some (.cells arr ty (0,0))
 room:es.length<=cap
 fit:off+cap*k<=arr.size
 len:∀e∈es,e.length=k
 one:∀e∈es,∀v∈e,v.oneCell'=true
 cell:∀i j e v,es[i]?=some e->e[j]?=some v->arr[off+i*k+j]?=some v
variable{w:World}{k:Nat}{ω:Own}
theorem Row.rep{b off cap:Nat}{arr:Array Value}{ty:TypeId}(h:Row w b off k cap arr ty es){R:List (Nat×Nat)->dr->Prop}(ed:R [] (ω b)):
  b4 w ω R (.J k (gD es)) (.slice (some ⟨b,off,none⟩) es.length cap):=by
 have:=b4.row (w:=w) (ω:=ω) R k (gD es) b off cap arr ty (0,0) (fun i j=>arr.getD (off+i*k+j) undef) h.heap ed (by rw[G6];exact h.room) h.fit
  (by intro e he;simp only[gD,lh]at he;obtain⟨bE,bO,rfl⟩:=he;simpa using h.len bE bO)
  (by
   intro i j d aE;obtain⟨e,v,h1,U,rfl⟩:=Th aE;have:=h.cell i j e v h1 U;simp[e7,this])
  (by
   intro i j d aE;obtain⟨e,v,h1,U,rfl⟩:=Th aE;have aA:=h.cell i j e v h1 U;have:arr.getD (off+i*k+j) undef=v:=by simp[e7,aA]
   rw[this];exact .v _ _ (h.one e (gb h1) v (gb U)))
 rwa[G6]at this
theorem IY.row{w:World}{ω:Own}(ax:IY w ω){t:Nat}{y:Value}(h:b4 w ω (Tag.own t).R (.J k (gD es)) y):
  (es=[]/\∃a,y=.slice a 0 0)\/∃b off cap arr ty,ω b=.tok t []/\y=.slice (some ⟨b,off,none⟩) es.length cap/\Row w b off k cap arr ty es:=by
 generalize aE:D.J k (gD es)=d at h;cases h with
 | nil R k a=>
  simp only[D.J.injEq]at aE;exact .inl ⟨by simpa[gD]using aE.2,a,rfl⟩
 | row R k cD b off cap arr ty cZ us aw ed ak ao hk hu eN=>
  simp only[D.J.injEq]at aE;obtain⟨rfl,rfl⟩:=aE;simp only[Tag.R]at ed;obtain⟨_,cm,rX,aA⟩:=ax b (by rw[ed];simp);rw[aw]at aA;simp only[aX,Obj.cells.injEq]at aA;obtain⟨rfl,rfl,rfl⟩:=aA;refine .inr ⟨b,off,cap,arr,ty,ed,by rw[G6],aw,by rwa[G6]at ak,ao,fun e he=>?_,fun e he v bI=>?_,fun i j e v h1 U=>?_⟩
  ·have:=hk (e.map .v) (by simp only[gD,lh];exact⟨e,he,rfl⟩);simpa using this
  ·obtain⟨i,hi⟩:=pS.1 he;obtain⟨j,bk⟩:=pS.1 bI;have:=eN i j (.v v) (Jh hi bk);generalize us i j=u at this;cases this with
   | v _ _ h1=>exact h1
  have aA:=hu i j (.v v) (Jh h1 U);have aJ:=eN i j (.v v) (Jh h1 U);generalize us i j=u at aA aJ;cases aJ with
  | v=>exact aA
 | v=>cases aE
 | ptr=>cases aE
 | cl=>cases aE
structure Ew (w aP:World) (own:Nat->Prop) (k:Nat) (es:List (List Value)) (v:Value):Prop where
 QL:wz ⟨w,own,fun _=>(0,undef)⟩ aP
 row:(es=[]/\∃a,v=.slice a 0 0)\/∃b off cap arr ty,(own b\/w.heap.size<=b)/\v=.slice (some ⟨b,off,none⟩) es.length cap/\Row aP b off k cap arr ty es
theorem Ew.res{aP:World}{v:Value}(h:Ew w aP (fun b=>ω b≠.bM) k es v):
  ∃bf:Own,(∀b,b<w.heap.size->ω b=.bM->bf b=.bM)/\(∀b,bf b≠.bM->(∃t q,bf b=.tok t q)/\∃arr ty,aP.heap[b]?=some (.cells arr ty (0,0)))/\nH aP bf [.one (.J k (gD es))] v:=by
 rcases h.row with⟨rfl,a,rfl⟩ | ⟨b,off,cap,arr,ty,a7,rfl,aD⟩
 ·exact⟨fun _=>.bM,fun _ _ _=>rfl,fun b aw=>absurd rfl aw,b4.nil _ k a⟩
 refine⟨fun c=>if c=b then .tok 0 [] else .bM,fun c ak he=>?_,fun c ak=>?_,?_⟩
 ·by_cases e:c=b
  ·subst e;rcases a7 with a7 | a7
   ·exact absurd he a7
   omega
  simp only[bw e]
 ·by_cases e:c=b
  ·subst e;exact⟨⟨0,[],by simp⟩,arr,ty,aD.heap⟩
  simp only[bw e]at ak;exact absurd rfl ak
 exact aD.rep (R:=(Tag.own 0).R) (by simp[Tag.R])
def D.AL:D->Value
 | .v x=>x
 | _=>undef
theorem QJ{vs:Array Value}{a b c:Value}(h:vs.size=3)(bO:vs[0]?=some a)(h1:vs[1]?=some b)(U:vs[2]?=some c):vs=#[a,b,c]:=by
 apply Array.ext
 ·simpa using h
 intro i hi _;have qb:i<3:=by omega
 match i,qb with
 | 0,_=>simpa[nm hi]using bO
 | 1,_=>simpa[nm hi]using h1
 | 2,_=>simpa[nm hi]using U
theorem b4.Jd{R:List (Nat×Nat)->dr->Prop}{x y:Value}(h:b4 w ω R (.v x) y):y=x:=by
 cases h;rfl
theorem Ti{args:List GA}{vs:Array Value}(h:∀(i j:Nat) (fi:GA) (k:Nat) (es cD:List (List D)),args[i]?=some fi->fi.cell j=some (.fk k es (some cD))->False):Kept w ω args vs:=
 fun i j fi k es cD h1 U=>(h i j fi k es cD h1 U).elim
@[simp] theorem setRow_drawn (w : World) (b : Nat) (cs : Array Value) : (w.setRow b cs).drawn = w.drawn := rfl
theorem Tj{own:Nat->Prop}{b:Nat}(aw:own b)(dL IV:Array Value):wz ⟨w,own,fun _=>(0,undef)⟩ ((w.drew.setRow b dL).setRow b IV):=by
 refine⟨rfl,rfl,rfl,by simp,fun k hk ax=>?_,?_⟩
 ·have:k≠b:=fun e=>ax (by rw[e];exact aw)
  rw[setRow_other _ b k _ this,setRow_other _ b k _ this];rfl
 intro _;show w.drawn<=w.drawn+1;omega
