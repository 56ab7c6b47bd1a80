import Derived.Test.YtdchjefneblpgaaGreatR15
set_option linter.unusedVariables false
set_option linter.unusedSimpArgs false
namespace Go.Sx
open Go.RowKit
def eR.leaf(t:Nat):eR->aG
 | .ro d=>d.leaf .free
 | .fh k es _=>.J (.own t) k es
def wE(i:Nat):Nat->List eR->List aG
 | _,[]=>[]
 | j,c::cs=>c.leaf (fF i j)::wE i (j+1) cs
def GA.aR(i:Nat):GA->bm
 | .one c=>.one (c.leaf (fF i 0))
 | .agg cs=>.agg (wE i 0 cs)
def vn:Nat->List GA->List aH
 | _,[]=>[]
 | i,a::as=>.aR (a.aR i)::vn (i+1) as
def zI(args:List GA)(ntmps:Nat):aD:=⟨vn 0 args++List.replicate (ntmps-args.length) .cu,[]⟩
def eR.post:eR->aG->eR
 | .fh k es (some _),.J (.own _) cf cy=>if cf=k then .fh k es (some cy) else .fh k es none
 | .fh k es _,_=>.fh k es none
 | c,_=>c
def RT(args:List GA):Bool:=args.all fun | .one _=>true | .agg cs=>decide (cs.length<=100)
def RU(args:List GA)(t:Nat):Nat:=
 match (args[(t-dj) / 100]?).bind (GA.cell ((t-dj) % 100)) with
 | some (.fh k _ _)=>k
 | _=>0
def BJ(args:List GA)(vs:Array Value)(t:Nat):Nat×Value:=(RU args t,cellOf (vs.getD ((t-dj) / 100) undef) ((t-dj) % 100))
theorem J3{args:List GA}{vs:Array Value}{i j:Nat}(a8:j<100){fc:GA}(ae:args[i]?=some fc){k:Nat}{es:List (List D)}{post:Option (List (List D))}(al:fc.cell j=some (.fh k es post)):
  BJ args vs (fF i j)=(k,cellOf (vs.getD i undef) j):=by
 have e1:(fF i j-dj) / 100=i:=by simp only[fF];omega
 have e2:(fF i j-dj) % 100=j:=by simp only[fF];omega
 simp only[BJ,RU,e1,e2,ae,qU,al]
theorem Vv(i:Nat):∀(cs:List eR) (j x:Nat),(wE i j cs)[x]?=(cs[x]?).map fun c=>c.leaf (fF i (j+x))
 | [],j,x=>by simp[wE]
 | c::cs,j,0=>by simp[wE]
 | c::cs,j,x+1=>by
  simp only[wE,p3,Vv i cs (j+1) x];rw[show j+1+x=j+(x+1) by omega]
theorem Vw(i:Nat):∀(cs:List eR) (j:Nat),(wE i j cs).length=cs.length
 | [],_=>rfl
 | c::cs,j=>by simp[wE,Vw i cs (j+1)]
theorem Vx:∀(as:List GA) (i x:Nat),(vn i as)[x]?=(as[x]?).map fun a=>.aR (a.aR (i+x))
 | [],i,x=>by simp[vn]
 | a::as,i,0=>by simp[vn]
 | a::as,i,x+1=>by
  simp only[vn,p3,Vx as (i+1) x];rw[show i+1+x=i+(x+1) by omega]
theorem N7:∀(as:List GA) (i:Nat),(vn i as).length=as.length
 | [],_=>rfl
 | a::as,i=>by simp[vn,N7 as (i+1)]
theorem w4.sat{w:World}{ω:Own}{τ:Nat->Nat×Value}{t:Nat}{c:eR}{y:Value}(h:w4 w ω t c y)(um:∀k es post,c=.fh k es post->τ t=(k,y)):Sat w ω τ (c.leaf t) y:=by
 cases c with
 | ro d=>exact D.dX (t:=.free) (p:=(0,0)) h
 | fh k es post=>exact⟨h,um k es post rfl⟩
theorem axz{w:World}{ω:Own}{args:List GA}{vs:Array Value}(eh:RT args=true)(h:JD w ω args vs)(pw:Tidy w ω)(ntmps:Nat):
  Rel ⟨w,fun b=>ω b≠.bJ,BJ args vs⟩ (zI args ntmps) { tmps:=vs++Array.replicate (ntmps-vs.size) undef,defers:=[] } w:=by
 obtain⟨ar,aP,ae⟩:=h;refine⟨ω,BJ args vs,rfl,by simp[zI,aP,N7],ho.start pw,fun b aq=>⟨.inr aq,(ar b aq).2⟩,fun _ _=>rfl,(fun id b _ aq=>by
  obtain⟨⟨t,q,e,_⟩,_⟩:=ar b (by rw[aq];simp);rw[aq]at e;cases e),?_,fun id ls aj=>by simp[zI,dI]at aj⟩
 intro i p hp;simp only[zI]at hp;rw[qS,N7]at hp;split at hp
 ·rename_i hi;rw[Vx,b5]at hp;obtain⟨fc,jH,rfl⟩:=hp;rw[dV];obtain⟨v,bD,bI⟩:=ae i fc jH;have qo:i<vs.size:=by omega
  refine⟨v,by rw[kr,bh qo,bD],?_⟩;have SJ:vs.getD i undef=v:=by simp[eW,bD]
  cases fc with
  | one c=>
   refine w4.sat bI fun k es post al=>?_
   have:=J3 (args:=args) (vs:=vs) (i:=i) (j:=0) (by omega) jH (k:=k) (es:=es) (post:=post) (by simp[GA.cell,al]);rw[this,SJ];subst al;have aB:bZ w ω (Tag.own (fF i 0)).R (.J k es) v:=bI;obtain⟨b,c,rfl⟩:=aB.len;rfl
  | agg cs=>
   obtain⟨us,rfl,hlen,qk⟩:=bI;refine⟨us,rfl,by rw[Vw];exact hlen,fun j l aj=>?_⟩;rw[Vv,b5]at aj;obtain⟨c,al,rfl⟩:=aj;rw[dV];obtain⟨u,hu,bI⟩:=qk j c al;have a8:j<100:=by
    have h1:=gP.1 eh _ (f' jH);simp only[cc]at h1;have:=(gh.1 al).1;omega
   refine⟨u,hu,w4.sat bI fun k es post e=>?_⟩;rw[J3 (args:=args) (vs:=vs) a8 jH (k:=k) (es:=es) (post:=post) (by simp only[GA.cell,al,e]),SJ];simp[cellOf,Value.cells,eW,hu]
 rename_i hi;rw[E0]at hp;split at hp
 ·rename_i bM;simp only[aX]at hp;subst hp;refine⟨undef,?_,ad⟩;rw[kr,bq (by omega),Array.getElem?_replicate,bh (by omega)]
 cases hp
end Go.Sx
namespace Go.Sx
open Go.RowKit
def eR.found(t:Nat):eR->Option aG->eR×iQ
 | .ro d,_=>(.ro d,[])
 | .fh k es (some _),some (.J (.own s) cf cy)=>if s=t/\cf=k then (.fh k es (some cy),[(t,t)]) else (.fh k es none,[])
 | .fh k es _,_=>(.fh k es none,[])
def oS(i:Nat):Nat->List eR->List aG->List eR×iQ
 | _,[],_=>([],[])
 | j,c::cs,ls=>((c.found (fF i j) ls.head?).1::(oS i (j+1) cs ls.tail).1,(c.found (fF i j) ls.head?).2++(oS i (j+1) cs ls.tail).2)
def GA.found(i:Nat):GA->aH->GA×iQ
 | .one c,p=>(.one (c.found (fF i 0) p.leaf).1,(c.found (fF i 0) p.leaf).2)
 | .agg cs,.aR (.agg ls)=>(.agg (oS i 0 cs ls).1,(oS i 0 cs ls).2)
 | .agg cs,_=>(.agg (oS i 0 cs []).1,(oS i 0 cs []).2)
def ml:Nat->List GA->List aH->List GA×iQ
 | _,[],_=>([],[])
 | i,a::as,ca=>((a.found i (ca.headD .cu)).1::(ml (i+1) as ca.tail).1,(a.found i (ca.headD .cu)).2++(ml (i+1) as ca.tail).2)
theorem eR.FB{t:Nat}{c:eR}{l:Option aG}{k:Nat}{es cy:List (List D)}(h:(c.found t l).1=.fh k es (some cy)):l=some (.J (.own t) k cy)/\(t,t)∈(c.found t l).2:=by
 unfold eR.found at h ⊢;split at h
 ·cases h
 ·rename_i eb dW p s cf aCs;split at h
  ·rename_i al;obtain⟨rfl,rfl⟩:=al;simp only[eR.fh.injEq,aX]at h;obtain⟨rfl,_,rfl⟩:=h;exact⟨rfl,by simp⟩
  cases h
 cases h
theorem N8(i:Nat):∀{cs:List eR} {ls:List aG} {j x k:Nat} {es cy:List (List D)},(oS i j cs ls).1[x]?=some (.fh k es (some cy))->
  ls[x]?=some (.J (.own (fF i (j+x))) k cy)/\(fF i (j+x),fF i (j+x))∈(oS i j cs ls).2
 | [],ls,j,x,k,es,cy,h=>by simp[oS]at h
 | c::cs,ls,j,0,k,es,cy,h=>by
  simp only[oS,mV,aX]at h;obtain⟨h1,U⟩:=eR.FB h;refine⟨by cases ls<;>simp_all,?_⟩;simp only[oS];exact gE _ U
 | c::cs,ls,j,x+1,k,es,cy,h=>by
  simp only[oS,p3]at h;obtain⟨h1,U⟩:=N8 i h;rw[show j+1+x=j+(x+1) by omega]at h1 U;refine⟨by cases ls<;>simp_all,?_⟩;simp only[oS];exact hP _ U
def AV(j:Nat):bm->Option aG
 | .one l=>if j=0 then some l else none
 | .agg ls=>ls[j]?
theorem GA.FB{i j:Nat}{a:GA}{p:aH}{k:Nat}{es cy:List (List D)}(h:(a.found i p).1.cell j=some (.fh k es (some cy))):
  ∃aR,p=.aR aR/\AV j aR=some (.J (.own (fF i j)) k cy)/\(fF i j,fF i j)∈(a.found i p).2:=by
 cases a with
 | one c=>
  simp only[GA.found,GA.cell]at h ⊢;split at h
  ·rename_i a8;subst a8;simp only[aX]at h;obtain⟨h1,U⟩:=eR.FB h;cases p with
   | gB as=>cases h1
   | aR a=>
    cases a with
    | agg ls=>cases h1
    | one l=>
     simp only[aH.leaf,aX]at h1;exact⟨_,rfl,by simp[AV,h1],U⟩
  cases h
 | agg cs=>
  have S9:∀q:List eR×iQ,q=oS i 0 cs []->q.1[j]?=some (.fh k es (some cy))->False:=by
   rintro q rfl h;have:=(N8 i h).1;simp at this
  cases p with
  | gB as=>exact (S9 _ rfl h).elim
  | aR a=>
   cases a with
   | one l=>exact (S9 _ rfl h).elim
   | agg ls=>
    simp only[GA.found,GA.cell]at h ⊢;obtain⟨h1,U⟩:=N8 i h;rw[dV]at h1 U;exact⟨_,rfl,by simp[AV,h1],U⟩
theorem Vy:∀{as:List GA} {ca:List aH} {i x j:Nat} {a:GA} {k:Nat} {es cy:List (List D)},(ml i as ca).1[x]?=some a->a.cell j=some (.fh k es (some cy))->
  ∃aR,ca[x]?=some (.aR aR)/\AV j aR=some (.J (.own (fF (i+x) j)) k cy)/\(fF (i+x) j,fF (i+x) j)∈(ml i as ca).2
 | [],ca,i,x,j,a,k,es,cy,h,_=>by simp[ml]at h
 | b::as,ca,i,0,j,a,k,es,cy,h,al=>by
  simp only[ml,mV,aX]at h;subst h;obtain⟨aR,h1,U,aA⟩:=GA.FB al;refine⟨aR,?_,U,?_⟩
  ·cases ca with
   | nil=>
    simp only[List.headD_nil]at h1;cases h1;simp only[AV]at U;split at U<;>simp at U
   | cons p ca=>simpa using h1
  simp only[ml];exact gE _ aA
 | b::as,ca,i,x+1,j,a,k,es,cy,h,al=>by
  simp only[ml,p3]at h;obtain⟨aR,h1,U,aA⟩:=Vy h al;rw[show i+1+x=i+(x+1) by omega]at U aA;refine⟨aR,by cases ca<;>simp_all,U,?_⟩;simp only[ml];exact hP _ aA
def sa(P:Program)(st:aD)(kJ:List ResultVar)(args:List GA)(hint:List cL):Option (List cL×List GA):=
 match kJ.mapM (rW P st) with
 | some ca=>
  match tt 0 ca hint with
  | some (ds,ts)=>if RT args&&HS (ts++(ml 0 args st.env).2) then some (ds,(ml 0 args st.env).1) else none
  | none=>none
 | none=>none
theorem Vz{P:Program}{f:FuncId}{fn:Func}{c:Code}{args:List GA}{rs:List cL}{ans cq:List cb}{obs:List Prop}{e:hA}{st:aD}(br:P.funcs[f]?=some fn)(aq:fn.body=some c)
  (fG:run P c (zI args fn.ntmps) ans=some (e,st,cq,obs)) (aW:c8 obs) (he:e=.ret\/e=.normal) (fi:sa P st fn.results.toList args rs=some (rs,args)):lk P f args rs:=by
 intro w vs E4 nR pw;unfold sa at fi;split at fi
 ·rename_i ca uf;split at fi
  ·rename_i ds ts e6;split at fi
   ·rename_i bI;simp only[aX,bH]at fi;obtain⟨rfl,adi⟩:=fi;rw[b9]at bI;obtain⟨eh,bI⟩:=bI;refine calls_of_wp br aq (Code.wp_mono (fun e' cJ aM hp=>?_) (oQ c fG aW _ _ w (axz eh nR pw fn.ntmps)));obtain⟨rfl,ω,τ,aZ⟩:=hp;obtain⟨zs,h1,U,aA⟩:=HV aZ uf;obtain⟨aI,a'⟩:=HU (w:=aM) (ω:=ω) (τ:=τ) (ts:=ts++(ml 0 args st.env).2) (fun t n h=>HT bI h) e6 (fun x aa=>gE _ aa);have hm:=GQ (P:=P) _ fn.results aM _ h1;have fq:∀(j:Nat) (d:cL),ds[j]?=some d->∃z,zs[j]?=some z/\nz aM (jo ω (ts++(ml 0 args st.env).2)) j d z:=by
     intro j d aF;obtain⟨p,hp,ue⟩:=a' j d aF;obtain⟨z,aL,nV⟩:=aA j p hp;exact⟨z,aL,by have:=ue z nV;rwa[dV]at this⟩
    have np:zs.length=ds.length:=by omega
    have jk:∀v,(if h:zs.toArray.size=1 then zs.toArray[0] else .tuple zs.toArray)=v->n0 aM (jo ω (ts++(ml 0 args st.env).2)) ds v:=by
     intro v bD;unfold n0;split
     ·rename_i ct;obtain⟨z,aL,al⟩:=fq 0 ct rfl;have h1:zs.length=1:=by rw[np];rfl
      have sN:zs=[z]:=by
       match zs,h1,aL with
       | [z0],_,aL=>simp at aL;rw[aL]
      have K7:v=z:=by
       rw[<-bD];simp[sN]
      rw[K7];exact al
     rename_i cU;have h1:¬zs.toArray.size=1:=by
      intro h;simp at h;rw[np]at h;obtain⟨d,aF⟩:=List.length_eq_one_iff.1 h;exact cU d aF
     rw[dif_neg h1]at bD;exact⟨zs.toArray,bD.symm,by simpa using np,fun r ct aB=>by obtain⟨z,aL,al⟩:=fq r ct aB;exact⟨z,by simpa using aL,al⟩⟩
    have KI:Kept aM (jo ω (ts++(ml 0 args st.env).2)) args vs:=by
     intro i j fc k es cy jH al;have adk:(ml 0 args st.env).1[i]?=some fc:=by rw[adi];exact jH
     obtain⟨aR,bu,bU,cI⟩:=Vy adk al;rw[dV]at bU cI;obtain⟨v,bD,ai⟩:=aZ.env i _ bu;have eT:∃u,Sat aM ω τ (.J (.own (fF i j)) k cy) u:=by
      cases aR with
      | one l=>
       simp only[AV]at bU;split at bU
       ·simp only[aX]at bU;exact⟨v,bU▸ai⟩
       cases bU
      | agg ls=>
       obtain⟨us,_,_,hu⟩:=ai;obtain⟨u,_,eu⟩:=hu j _ bU;exact⟨u,eu⟩
     obtain⟨u,aB,bK⟩:=eT;have a8:j<100:=by
      cases fc with
      | one c=>simp only[GA.cell]at al;split at al<;>first | omega | cases al
      | agg cs=>
       have h1:=gP.1 eh _ (f' jH);simp only[cc]at h1;have:=(gh.1 al).1;omega
     have vA:=aZ.fixed (fF i j) (by simp[fF]);have adm:=J3 (args:=args) (vs:=vs) a8 jH al;have:u=cellOf (vs.getD i undef) j:=by
      have eu:τ (fF i j)=(k,u):=bK;rw[vA]at eu;have d':BJ args vs (fF i j)=(k,u):=eu;rw[adm]at d';exact (Prod.mk.inj d').2.symm
     subst this;refine aB.frame fun b q _ aC=>⟨?_,rfl⟩
     simp only[Tag.R]at aC ⊢;have:=HT bI (hP ts cI);simp only[jo,aC,this]
    have ef:∃v,(results fn cJ.tmps).run P aM=.ok v aM/\∃u,Ending.returned v=.returned u/\ho ⟨w,fun b=>E4 b≠.bJ,fun _=>(0,undef)⟩ aM/\
      ∃bc:Own,(∀b,b<w.heap.size->E4 b=.bJ->bc b=.bJ)/\(∀b,bc b≠.bJ->(∃t q,bc b=.tok t q)/\∃arr ty,aM.heap[b]?=some (.cells arr ty (0,0)))/\Kept aM bc args vs/\n0 aM bc ds u:=by
     refine⟨_,?_,_,rfl,⟨aZ.below.os,aZ.below.tape,aZ.below.output,aZ.below.size,aZ.below.block,aZ.below.drawn,aZ.below.laid,aZ.below.free⟩,jo ω (ts++(ml 0 args st.env).2),fun b aq ar=>?_,fun b aq=>?_,KI,jk _ rfl⟩
     ·rw[My,Sem.run_bind,hm];rfl
     ·cases dr:ω b with
      | bJ=>simp[jo,dr]
      | box id=>simp[jo,dr]
      | tok t q=>
       rcases (aZ.owned b (by simp[dr])).1 with h | h
       ·exact absurd aq (by have h:w.heap.size<=b:=h;omega)
       exact absurd ar h
     cases dr:ω b with
     | bJ=>simp[jo,dr]at aq
     | box id=>simp[jo,dr]at aq
     | tok t q=>
      refine⟨?_,(aZ.owned b (by simp[dr])).2⟩;simp only[jo,dr]at aq ⊢;cases lu:(ts++(ml 0 args st.env).2).at t with
      | none=>simp[lu]at aq
      | some n=>exact⟨n,q,rfl⟩
    obtain⟨v,bu,bU⟩:=ef;rcases he with rfl | rfl
    ·exact⟨aZ.defers,v,bu,bU⟩
    exact⟨aZ.defers,v,bu,bU⟩
   cases fi
  cases fi
 cases fi
def LZ(P:Program)(c:Code)(ntmps:Nat)(kJ:List ResultVar)(args:List GA)(hint:List cL)(ans:List cb):Option (List cL×List GA×List Prop):=
 match run P c (zI args ntmps) ans with
 | some (.ret,st,_,obs)=>(sa P st kJ args hint).map fun rs=>(rs.1,rs.2,obs)
 | some (.normal,st,_,obs)=>(sa P st kJ args hint).map fun rs=>(rs.1,rs.2,obs)
 | _=>none
theorem lk.of{P:Program}{f:FuncId}{fn:Func}{args:List GA}{rs:List cL}(ans:List cb)(obs:List Prop)(br:P.funcs[f]?=some fn)(aq:fn.body.isSome=true)
  (h:LZ P (oR fn) fn.ntmps fn.results.toList args rs ans=some (rs,args,obs)) (aW:c8 obs):lk P f args rs:=by
 obtain⟨c,al⟩:=sh.1 aq;have B9:oR fn=c:=by simp[oR,al]
 unfold LZ at h;rw[B9]at h;split at h
 ·rename_i st a nY aB;rw[b5]at h;obtain⟨⟨Bh,Qh⟩,h1,h⟩:=h;simp only[bH]at h;obtain⟨rfl,rfl,rfl⟩:=h;exact Vz br al aB aW (.inl rfl) h1
 ·rename_i st a nY aB;rw[b5]at h;obtain⟨⟨Bh,Qh⟩,h1,h⟩:=h;simp only[bH]at h;obtain⟨rfl,rfl,rfl⟩:=h;exact Vz br al aB aW (.inr rfl) h1
 cases h
end Go.Sx
namespace Go.Sx
open Go.RowKit
def gI(es:List (List Value)):List (List D):=es.map (·.map .v)
theorem Ha(es:List (List Value)):(gI es).length=es.length:=by simp[gI]
variable{es:List (List Value)}
theorem VA{i j:Nat}{d:D}(h:dd (gI es) i j=some d):∃e v,es[i]?=some e/\e[j]?=some v/\d=.v v:=by
 unfold dd gI at h;rw[eg]at h;cases e1:es[i]? with
 | none=>simp[e1]at h
 | some e=>
  simp only[e1,si,qU,eg,b5]at h;obtain⟨v,h1,rfl⟩:=h;exact⟨e,v,rfl,h1,rfl⟩
theorem J1{i j:Nat}{e:List Value}{v:Value}(h1:es[i]?=some e)(U:e[j]?=some v):dd (gI es) i j=some (.v v):=by
 simp[dd,gI,h1,U]
structure Row (w:World) (b off k cap:Nat) (arr:Array Value) (ty:TypeId) (es:List (List Value)):Prop where
 heap:w.heap[b]?=some (.cells arr ty (0,0))
 room:es.length<=cap
 fit:off+cap*k<=arr.size
 len:∀e∈es,e.length=k
 one:∀e∈es,∀v∈e,v.oneCell'=true
 cell:∀i j e v,es[i]?=some e->e[j]?=some v->arr[off+i*k+j]?=some v
variable{w:World}{k:Nat}{ω:Own}
theorem Row.rep{b off cap:Nat}{arr:Array Value}{ty:TypeId}(h:Row w b off k cap arr ty es){R:List (Nat×Nat)->dp->Prop}(ef:R [] (ω b)):
  bZ w ω R (.J k (gI es)) (.slice (some ⟨b,off,none⟩) es.length cap):=by
 have:=bZ.row (w:=w) (ω:=ω) R k (gI es) b off cap arr ty (0,0) (fun i j=>arr.getD (off+i*k+j) undef) h.heap ef (by rw[Ha];exact h.room) h.fit
  (by intro e he;simp only[gI,fV]at he;obtain⟨cd,bE,rfl⟩:=he;simpa using h.len cd bE)
  (by
   intro i j d aF;obtain⟨e,v,h1,U,rfl⟩:=VA aF;have:=h.cell i j e v h1 U;simp[eW,this])
  (by
   intro i j d aF;obtain⟨e,v,h1,U,rfl⟩:=VA aF;have aA:=h.cell i j e v h1 U;have:arr.getD (off+i*k+j) undef=v:=by simp[eW,aA]
   rw[this];exact .v _ _ (h.one e (f' h1) v (f' U)))
 rwa[Ha]at this
theorem JE.row{w:World}{ω:Own}(ar:JE w ω){t:Nat}{y:Value}(h:bZ w ω (Tag.own t).R (.J k (gI es)) y):
  (es=[]/\∃a,y=.slice a 0 0)\/∃b off cap arr ty,ω b=.tok t []/\y=.slice (some ⟨b,off,none⟩) es.length cap/\Row w b off k cap arr ty es:=by
 generalize aF:D.J k (gI es)=d at h;cases h with
 | nil R k a=>
  simp only[D.J.injEq]at aF;exact .inl ⟨by simpa[gI]using aF.2,a,rfl⟩
 | row R k cy b off cap arr ty cM us aq ef al ai hk hu eK=>
  simp only[D.J.injEq]at aF;obtain⟨rfl,rfl⟩:=aF;simp only[Tag.R]at ef;obtain⟨_,cg,sd,aA⟩:=ar b (by rw[ef];simp);rw[aq]at aA;simp only[aX,Obj.cells.injEq]at aA;obtain⟨rfl,rfl,rfl⟩:=aA;refine .inr ⟨b,off,cap,arr,ty,ef,by rw[Ha],aq,by rwa[Ha]at al,ai,fun e he=>?_,fun e he v bD=>?_,fun i j e v h1 U=>?_⟩
  ·have:=hk (e.map .v) (by simp only[gI,fV];exact⟨e,he,rfl⟩);simpa using this
  ·obtain⟨i,hi⟩:=p4.1 he;obtain⟨j,a8⟩:=p4.1 bD;have:=eK i j (.v v) (J1 hi a8);generalize us i j=u at this;cases this with
   | v _ _ h1=>exact h1
  have aA:=hu i j (.v v) (J1 h1 U);have aI:=eK i j (.v v) (J1 h1 U);generalize us i j=u at aA aI;cases aI with
  | v=>exact aA
 | v=>cases aF
 | ptr=>cases aF
 | cl=>cases aF
structure Fa (w aM:World) (own:Nat->Prop) (k:Nat) (es:List (List Value)) (v:Value):Prop where
 RF:w3 ⟨w,own,fun _=>(0,undef)⟩ aM
 row:(es=[]/\∃a,v=.slice a 0 0)\/∃b off cap arr ty,(own b\/w.heap.size<=b)/\v=.slice (some ⟨b,off,none⟩) es.length cap/\Row aM b off k cap arr ty es
theorem Fa.res{aM:World}{v:Value}(h:Fa w aM (fun b=>ω b≠.bJ) k es v):
  ∃bc:Own,(∀b,b<w.heap.size->ω b=.bJ->bc b=.bJ)/\(∀b,bc b≠.bJ->(∃t q,bc b=.tok t q)/\∃arr ty,aM.heap[b]?=some (.cells arr ty (0,0)))/\n0 aM bc [.one (.J k (gI es))] v:=by
 rcases h.row with⟨rfl,a,rfl⟩ | ⟨b,off,cap,arr,ty,aW,rfl,aB⟩
 ·exact⟨fun _=>.bJ,fun _ _ _=>rfl,fun b aq=>absurd rfl aq,bZ.nil _ k a⟩
 refine⟨fun c=>if c=b then .tok 0 [] else .bJ,fun c al he=>?_,fun c al=>?_,?_⟩
 ·by_cases e:c=b
  ·subst e;rcases aW with aW | aW
   ·exact absurd he aW
   omega
  simp only[bq e]
 ·by_cases e:c=b
  ·subst e;exact⟨⟨0,[],by simp⟩,arr,ty,aB.heap⟩
  simp only[bq e]at al;exact absurd rfl al
 exact aB.rep (R:=(Tag.own 0).R) (by simp[Tag.R])
def D.Bn:D->Value
 | .v x=>x
 | _=>undef
theorem RD{vs:Array Value}{a b c:Value}(h:vs.size=3)(bE:vs[0]?=some a)(h1:vs[1]?=some b)(U:vs[2]?=some c):vs=#[a,b,c]:=by
 apply Array.ext
 ·simpa using h
 intro i hi _;have qo:i<3:=by omega
 match i,qo with
 | 0,_=>simpa[nL hi]using bE
 | 1,_=>simpa[nL hi]using h1
 | 2,_=>simpa[nL hi]using U
theorem bZ.JX{R:List (Nat×Nat)->dp->Prop}{x y:Value}(h:bZ w ω R (.v x) y):y=x:=by
 cases h;rfl
theorem VB{args:List GA}{vs:Array Value}(h:∀(i j:Nat) (fc:GA) (k:Nat) (es cy:List (List D)),args[i]?=some fc->fc.cell j=some (.fh k es (some cy))->False):Kept w ω args vs:=
 fun i j fc k es cy h1 U=>(h i j fc k es cy h1 U).elim
@[simp] theorem setRow_drawn (w : World) (b : Nat) (cs : Array Value) : (w.setRow b cs).drawn = w.drawn := rfl
theorem VC{own:Nat->Prop}{b:Nat}(aq:own b)(dH JA:Array Value):w3 ⟨w,own,fun _=>(0,undef)⟩ ((w.drew.setRow b dH).setRow b JA):=by
 refine⟨rfl,rfl,rfl,by simp,fun k hk ar=>?_,?_⟩
 ·have:k≠b:=fun e=>ar (by rw[e];exact aq)
  rw[setRow_other _ b k _ this,setRow_other _ b k _ this];rfl
 intro _;show w.drawn<=w.drawn+1;omega
