import Derived.Test.YthfnndblgbjniaaGreatDoorR11
set_option linter.unusedVariables false
set_option linter.unusedSimpArgs false
namespace Go.Sx
open Go.RowKit
def DM(P:Program)(st:aF)(d:Nat)(elem:TypeId)(r:List cd):Stepped:=
 match P.info? elem with
 | some i=>match i.zero with
  | some z=>if d<da then some (⟨(st.jo d []).env.set d (.one (.fp d (z.cells.toList.map .v))),(st.jo d []).boxes⟩,r,[]) else none
  | none=>none
 | none=>none
variable{w0:eE}{st bu:aF}{a:Act}{w:World}{ω:Own}{τ:Nat->Nat×Value}{d:Nat}{ans cm:List cd}{obs:List Prop}
theorem cD.XK{P:Program}{elem:TypeId}(aZ:cD w0 st a w ω τ)
  (h:DM P st d elem ans=some (bu,cm,obs)):
  ∃z aN,(Instr.alloc elem true (.tuple #[])).run P w=.ok z aN/\Rel w0 bu (a.put (some d) z) aN:=by
 unfold DM at h;split at h
 ·rename_i i hi;split at h
  ·rename_i z bp;split at h
   ·rename_i aI;simp only[aW,bA]at h;obtain⟨rfl,_,_⟩:=h;have U:=aZ.jo d aI [] (k:=0) (cap:=0) (es:=[]) (arr:=z.cells) (ty:=elem) ((gA.refl _ _).alloc (gw _) (.cells z.cells elem)) (nu _ _) (gw _) (by simp) (by simp)
     (by grind[c5])
    refine⟨.pointer (some ⟨w.heap.size,0,none⟩),w.alloc (.cells z.cells elem),by simp_all[Instr.alloc,zeroValue,typeInfo,newVar,newRow],_,_,U.1.put (p:=.one (.fp d (z.cells.toList.map .v))) ?_⟩;refine⟨w.heap.size,elem,z.cells,rfl,by simp[pq],nu _ _,by simp,fun j c ao=>?_⟩;rw[dP,ca]at ao;obtain⟨u,hu,rfl⟩:=ao;exact⟨u,by grind,rfl⟩
   cases h
  cases h
 cases h
def fm(t:Nat):Tag->Option Tag
 | .free=>some .free
 | .own s=>if s=t then none else some (.own s)
 | .ro s=>if s=t then none else some (.ro s)
variable{o:di}
theorem DN{t:Nat}{g eu:Tag}{q:List (Nat×Nat)}(h:fm t g=some eu)(aH:g.R q o):eu=g/\∀dU,o≠.tok t dU:=by
 cases g with
 | free=>simp_all[fm,aW,Tag.R]
 | own s=>
  simp_all[fm,aW,Tag.R,di.tok.injEq]
 | ro s=>
  simp only[fm]at h;split at h
  ·cases h
  rename_i ak;simp only[aW]at h;subst h;simp only[Tag.R]at aH;grind
variable{s:Nat}
theorem Jq{x:Value}(this:a.tmps[s]?=some x):a.put (some s) x=a:=by
 simp only[Act.put];have:a.tmps.setIfInBounds s x=a.tmps:=by
  grind
 rw[this]
def aE.ly:aE->eZ
 | .v x=>.v x
 | .bg c=>.v (.bool c)
 | .J t k es=>.J t k es
 | _=>.cw
def II(p:aG):Option (List eZ):=p.leaves.map (·.map aE.ly)
theorem aE.Ph{l:aE}{y:Value}(h:Sat w ω τ l y):qS w ω τ l.ly y:=by
 cases l<;>first | exact h | exact trivial
def eZ.leaf:eZ->aE
 | .cw=>.cw
 | .v x=>.v x
 | .J t k es=>.J t k es
theorem eZ.dN{τ:Nat->Nat×Value}{c:eZ}{y:Value}(h:qS w ω τ c y):Sat w ω τ c.leaf y:=by
 cases c<;>exact h
def DO(P:Program)(st:aF)(ty:TypeId)(s:Nat)(q:aG)(ans:List cd):Stepped:=
 match (st.env.getD s .cw).leaf,II q,P.info? ty with
 | some (.fp t vs),some cs,some i=>
  if cs.length=i.size/\cs.length<=vs.length then
   let oI:=st.map (aE.cF (fm t) fun _=>true)
   some (⟨oI.env.set s (.one (.fp t ((cs++vs.drop cs.length).map (eZ.cF (fm t))))),oI.boxes⟩,ans,[])
  else none
 | _,_,_=>none
theorem cD.awD{P:Program}{ty:TypeId}{q:aG}{v:Value}
  (aZ:cD w0 st a w ω τ) (aL:cO (Sat w ω τ) q v) (h:DO P st ty s q ans=some (bu,cm,obs)):
  ∃aN,(Instr.storeAt ty (a.eval (.tmp s)) v).run P w=.ok () aN/\Rel w0 bu a aN:=by
 unfold DO at h;split at h
 ·rename_i t vs cs i e1 e2 cn;split at h
  ·rename_i ao;obtain⟨bK,ct⟩:=ao;simp only[aW,bA]at h;obtain⟨rfl,_,_⟩:=h;unfold II at e2;rw[ca]at e2;obtain⟨ls,e2,rfl⟩:=e2;obtain⟨vi,p4⟩:=aG.xv e2 aL;have dI:v.cells.size=ls.length:=vi.1;rw[cr]at bK ct;have iH:st.env[s]?=some (.one (.fp t vs)):=by
    rw[kY]at e1;cases e:st.env[s]? with
    | none=>grind[aG.leaf]
    | some p=>
     rw[e]at e1;simp only[kZ]at e1;cases p with
     | fN as=>cases e1
     | aC x=>
      cases x with
      | agg ls=>cases e1
      | one l=>grind[aG.leaf,aW]
   obtain⟨y,bM,eN⟩:=aZ.env s _ iH;obtain⟨b,iw,arr,rfl,ay,xe,ZH,pb⟩:=eN;have q3:a.eval (.tmp s)=ptrTo b:=by simp_all[Act.eval]
   have fc:=run_storeCells_at P b 0 iw v.cells.toList 0 arr w xe (by simp;omega) p4;obtain⟨ci,o3⟩:∃ci,ci=(arr.toList.take (0+0)++v.cells.toList++arr.toList.drop (0+0+v.cells.toList.length)).toArray:=⟨_,rfl⟩
   rw[<-o3]at fc;have Yb:ci=(v.cells.toList++arr.toList.drop v.cells.size).toArray:=by grind
   refine⟨w.setRow b ci,?_,?_⟩
   ·rw[q3];simp only[ptrTo,Instr.storeAt,Instr.sureAddr,Sem.run_bind,Sem.run_pure,Result.andThen_ok,storeVar,sizeOf,typeInfo,run_program,cn];grind
   have k4:=setRow_heap w b arr ci iw (0,0) xe;have bn:lP w ω τ (w.setRow b ci) ω τ (fm t) (fun _=>true):=by
    refine⟨?_,?_,fun id c _ ao=>ao,rfl,fun _ _=>rfl⟩
    ·intro g eu c q ax _ aL;obtain⟨rfl,zu⟩:=DN ax aL;grind[setRow_other]
    intro g eu y ax bM;cases g with
    | free=>simp_all[fm,aW,trivial]
    | own x=>
     grind[fm,aW]
    | ro x=>
     simp_all[fm,aW,trivial]
   have U:cD w0 (st.map (aE.cF (fm t) fun _=>true)) a (w.setRow b ci) ω τ:=by
    refine aZ.ei _ bn.sat (aZ.below.setRow (aZ.owned b (by rw[ay];simp)).1 _) ?_ (fun id c ao=>⟨ao,setRow_other w b c _ fun e=>by grind⟩) (fun id c ao=>ao) (fun _ _=>rfl);intro c ao;obtain⟨U,ko,kD,aa⟩:=aZ.owned c ao;grind[setRow_other]
   have Ol:ci.size=(ls.map aE.ly++vs.drop (ls.map aE.ly).length).length/\∀(j:Nat) (c:eZ),(ls.map aE.ly++vs.drop (ls.map aE.ly).length)[j]?=some c->∃u,ci[j]?=some u/\qS w ω τ c u:=by
    refine⟨by grind,fun j c ao=>?_⟩;rw[Yb,oK];by_cases bm:j<ls.length
    ·rw[B7 (by grind),dP,ca]at ao;obtain⟨l,ar,rfl⟩:=ao;obtain⟨u,gG,fw⟩:=vi.2 j l ar;grind[aE.Ph]
    grind
   have OL:=D3 bn.ly Ol.1 Ol.2;have aa:=U.put (d:=s) (p:=.one (.fp t ((ls.map aE.ly++vs.drop (ls.map aE.ly).length).map (eZ.cF (fm t))))) (v:=ptrTo b) ⟨b,iw,ci,rfl,ay,k4,OL⟩;rw[Jq bM]at aa;exact⟨ω,τ,aa⟩
  cases h
 cases h
def IL(st:aF)(d:Nat):Option aF:=
 match st.env.getD d .cw with
 | .aC (.one (.fp t vs))=>
  if d<da then some ⟨(st.env.map (aG.map (aE.cF (fm t) (jR d)))).set d (.one (.ptr d 0)),(d,vs.map fun c=>aE.cF (fm t) (jR d) c.leaf)::(pu d st.boxes).map fun x=>(x.1,x.2.map (aE.cF (fm t) (jR d)))⟩ else none
 | _=>none
theorem ap2(h:Rel w0 st a w)(a':IL st d=some bu):Rel w0 bu a w:=by
 obtain⟨ω,τ,h⟩:=h;unfold IL at a';split at a'
 ·rename_i t vs he;split at a'
  case isFalse=>cases a'
  rename_i tE;simp only[aW]at a';subst a';have iH:st.env[d]?=some (.one (.fp t vs)):=by
   grind
  obtain⟨v,tM,sq⟩:=h.env d _ iH;obtain⟨b,ty,arr,rfl,ay,xe,ZH,pb⟩:=sq
  let bd:Own:=fun c=>if c=b then .box d else match ω c with | .box i=>if i=d then .bG else .box i | o=>o
  have oa:bd b=.box d:=by simp[bd]
  have iJ:∀c,c≠b->bd c=(match ω c with | .box i=>if i=d then .bG else .box i | o=>o):=by
   grind
  have bn:lP w ω τ w bd τ (fm t) (jR d):=by
   refine⟨?_,?_,?_,rfl,fun _ _=>rfl⟩
   ·intro g eu c q ax _ aL;obtain⟨rfl,zu⟩:=DN ax aL;have ji:c≠b:=fun e=>zu [] (by grind)
    refine⟨?_,rfl⟩;rw[iJ c ji];cases eu with
    | free=>grind[Tag.R]
    | own s=>grind[Tag.R]
    | ro s=>
     simp only[Tag.R]at aL ⊢;grind
   ·intro g eu y ax bM;cases g with
    | free=>simp_all[fm,aW,trivial]
    | own s=>
     grind[fm,aW]
    | ro s=>
     simp_all[fm,aW,trivial]
   intro i c hp ao;have ji:c≠b:=fun e=>by grind
   simp_all[jR,c3]
  have p6:nT w0 w bd:=by
   intro c ao;by_cases e:c=b
   ·subst e;exact h.owned c (by rw[ay];simp)
   rw[iJ c e]at ao;exact h.owned c (fun e'=>by grind)
  have key:=h.GL (bs:=(d,vs.map fun c=>aE.cF (fm t) (jR d) c.leaf)::(pu d st.boxes).map fun x=>(x.1,x.2.map (aE.cF (fm t) (jR d)))) bn h.below p6 ?_ (fun i c hi ao=>by
   grind)
  ·have:=key.put (d:=d) (p:=.one (.ptr d 0)) (v:=ptrTo b) ⟨b,oa,rfl⟩;rw[Jq tM]at this;exact⟨bd,τ,this⟩
  intro i fx ar;simp only[dD]at ar;split at ar
  ·rename_i hi;subst hi;have e:=gd ar;subst e;refine⟨b,arr,ty,oa,?_,xe,by grind,fun j l bm=>?_⟩
   ·grind
   rw[dP,ca]at bm;obtain⟨c,ao,rfl⟩:=bm;obtain⟨u,gG,fw⟩:=pb j c ao;exact⟨u,gG,bn.sat _ _ (eZ.dN fw)⟩
  rename_i hi;rw[sQ,ca]at ar;obtain⟨jm,b4,rfl⟩:=ar;have db:i≠d:=fun e=>hi e.symm
  rw[x1 db]at b4;obtain⟨c,ci,qJ,ao,hu,bD,eN⟩:=h.boxes i jm b4;refine⟨c,ci,qJ,bn.box i c (by grind[jR]) ao,?_,bD,eN.map bn.sat⟩;grind
 cases a'
def Gy(st:aF)(d:Nat):Option aF:=
 match st.env.getD d .cw,dD d st.boxes with
 | .aC (.one (.ptr dK 0)),some ls=>
  if dK=d/\d<da then some ⟨(st.env.map (aG.map (aE.cF (fm d) (jR d)))).set d (.one (.fp d ((ls.map aE.ly).map (eZ.cF (fm d))))),(pu d st.boxes).map fun x=>(x.1,x.2.map (aE.cF (fm d) (jR d)))⟩ else none
 | _,_=>none
theorem ap3(h:Rel w0 st a w)(a':Gy st d=some bu):Rel w0 bu a w:=by
 obtain⟨ω,τ,h⟩:=h;unfold Gy at a';split at a'
 ·rename_i dK ls he df;split at a'
  case isFalse=>cases a'
  rename_i tE;obtain⟨rfl,tE⟩:=tE;simp only[aW]at a';subst a';have iH:st.env[dK]?=some (.one (.ptr dK 0)):=by
   grind
  obtain⟨v,tM,sq⟩:=h.env dK _ iH;obtain⟨b6,hR,rfl⟩:=sq;obtain⟨b,arr,ty,ay,Yh,xe,vi⟩:=h.boxes dK ls df;have Oh:b6=b:=Yh b6 hR;subst Oh
  let bd:Own:=fun c=>if c=b6 then .tok dK [] else match ω c with | .tok s q=>if s=dK then .bG else .tok s q | o=>o
  have oa:bd b6=.tok dK []:=by simp[bd]
  have iJ:∀c,c≠b6->bd c=(match ω c with | .tok s q=>if s=dK then .bG else .tok s q | o=>o):=by
   grind
  have bn:lP w ω τ w bd τ (fm dK) (jR dK):=by
   refine⟨?_,?_,?_,rfl,fun _ _=>rfl⟩
   ·intro g eu c q ax _ aL;obtain⟨rfl,zu⟩:=DN ax aL;have ji:c≠b6:=fun e=>by
     rw[e,ay]at aL;cases eu with
     | free=>cases aL
     | own s=>cases aL
     | ro s=>
      rcases aL with aL | ⟨dU,aL⟩
      ·cases aL
      cases aL
    grind
   ·intro g eu y ax bM;cases g with
    | free=>simp_all[fm,aW,trivial]
    | own s=>
     grind[fm,aW]
    | ro s=>
     simp_all[fm,aW,trivial]
   intro i c hp ao;simp only[jR,c3]at hp;grind
  have p6:nT w0 w bd:=by
   intro c ao;by_cases e:c=b6
   ·subst e;exact h.owned c (by rw[ay];simp)
   rw[iJ c e]at ao;exact h.owned c (fun e'=>by grind)
  have Og:∀i c,bd c=.box i->ω c=.box i/\c≠b6:=by
   grind
  have key:=h.GL (bs:=(pu dK st.boxes).map fun x=>(x.1,x.2.map (aE.cF (fm dK) (jR dK)))) bn h.below p6 ?_ (fun i c _ ao=>(Og i c ao).1)
  ·have:=key.put (d:=dK) (p:=.one (.fp dK ((ls.map aE.ly).map (eZ.cF (fm dK))))) (v:=ptrTo b6) ⟨b6,ty,arr,rfl,oa,xe,D3 bn.ly (by rw[vi.1];simp) (fun j c ao=>by
    rw[dP,ca]at ao;obtain⟨l,ar,rfl⟩:=ao;obtain⟨u,gG,fw⟩:=vi.2 j l ar;grind[aE.Ph])⟩
   rw[Jq (show a.tmps[dK]?=some (ptrTo b6) from tM)]at this;exact⟨bd,τ,this⟩
  intro i fx ar;rw[sQ,ca]at ar;obtain⟨jm,b4,rfl⟩:=ar;have db:i≠dK:=fun e=>by grind[Jz]
  rw[x1 db]at b4;obtain⟨c,ci,qJ,ao,hu,bD,eN⟩:=h.boxes i jm b4;exact⟨c,ci,qJ,bn.box i c (by grind[jR]) ao,fun dw eM=>hu dw (Og i dw eM).1,bD,eN.map bn.sat⟩
 cases a'
def AM:List Nat->aF->Option aF
 | [],st=>some st
 | d::ds,st=>(Gy st d).bind (AM ds)
theorem QL:∀{ds:List Nat} {st bu:aF},Rel w0 st a w->AM ds st=some bu->Rel w0 bu a w
 | [],st,bu,h,a'=>by grind[AM,aW]
 | d::ds,st,bu,h,a'=>by
  simp only[AM,mf]at a';obtain⟨dR,U,aa⟩:=a';exact QL (ap3 h U) aa
def AN:List Nat->aF->Option aF
 | [],st=>some st
 | d::ds,st=>(IL st d).bind (AN ds)
theorem QM:∀{ds:List Nat} {st bu:aF},Rel w0 st a w->AN ds st=some bu->Rel w0 bu a w
 | [],st,bu,h,a'=>by grind[AN,aW]
 | d::ds,st,bu,h,a'=>by
  simp only[AN,mf]at a';obtain⟨dR,U,aa⟩:=a';exact QM (ap2 h U) aa
def kC(s n:Nat):Tag->Option Tag
 | .own x=>if x=s then some (.ro n) else if x=n then none else some (.own x)
 | .ro x=>if x=s then some (.ro n) else if x=n then none else some (.ro x)
 | .free=>some .free
def jS(s n l:Nat):di->di
 | .tok x q=>if x=s then (match q with | []=>.tok n [] | (i,j)::r=>if i<l then .bG else .tok n ((i-l,j)::r)) else if x=n then .bG else .tok x q
 | o=>o
variable{l n:Nat}
theorem Jr(h:jS s n l o≠.bG):o≠.bG:=by rintro rfl;exact h rfl
theorem ug{id:Nat}:jS s n l o=.box id<->o=.box id:=by
 cases o with
 | bG=>simp[jS]
 | box i=>simp[jS]
 | tok x q=>
  simp only[jS];grind
theorem QN{q:List (Nat×Nat)}:jS s n l (.tok s q)=.bG\/∃dU,jS s n l (.tok s q)=.tok n dU:=by
 simp only[jS,gy];grind
theorem Js{k:Nat}{z:Value}(iL:n<da):lP w ω τ w (fun b=>jS s n l (ω b)) (gh τ n k z) (kC s n) (fun _=>true):=by
 refine⟨?_,?_,?_,rfl,fun t bZ=>by simp only[gh];grind⟩
 ·intro g eu b q ax _ aL;refine⟨?_,rfl⟩;cases g with
  | free=>simp only[kC,aW]at ax;subst ax;simp only[Tag.R]at aL ⊢;rw[aL];rfl
  | own x=>
   simp only[kC]at ax;simp only[Tag.R]at aL;split at ax
   ·grind[aW,Tag.R,QN]
   rename_i ak;split at ax
   ·cases ax
   rename_i a';simp only[aW]at ax;subst ax;simp_all[Tag.R,jS,bH]
  | ro x=>
   simp only[kC]at ax;simp only[Tag.R]at aL;split at ax
   ·rename_i ak;simp only[aW]at ax;subst ax;subst ak;rcases aL with aL | ⟨dU,aL⟩
    ·rw[aL];exact .inl rfl
    rw[aL];exact QN
   rename_i ak;split at ax
   ·cases ax
   rename_i a';simp only[aW]at ax;subst ax;rcases aL with aL | ⟨dU,aL⟩
   ·rw[aL];exact .inl rfl
   rw[aL];simp only[jS,bH ak,bH a'];exact .inr ⟨dU,rfl⟩
 ·intro g eu y ax bM;cases g with
  | free=>simp only[kC,aW]at ax;subst ax;trivial
  | own x=>
   simp only[kC]at ax;split at ax
   ·simp only[aW]at ax;subst ax;trivial
   rename_i ak;split at ax
   ·cases ax
   rename_i a';simp only[aW]at ax;subst ax;simp_all[Tag.eb,gh,bH]
  | ro x=>
   simp only[kC]at ax;split at ax
   ·simp only[aW]at ax;subst ax;trivial
   split at ax
   ·cases ax
   simp only[aW]at ax;subst ax;trivial
 intro id b _ ay;exact ug.2 ay
def ow(s d:Nat):Nat:=if s<da then s else d
def yv(P:Program)(st:aF)(d:Nat)(t:TypeId)(p:aG)(cW hi iM:Option Operand)(ans:List cd):Stepped:=
 match qm P t,p.leaf,iM with
 | some (_,k),some (.J (.own s) cu es),none=>
  if k=cu/\ow s d<da then
   match l5 st cW,l5 st hi with
   | some l,some h=>
    let oI:=st.map (aE.cF (kC s (ow s d)) fun _=>true)
    some (⟨oI.env.set d (.one (.J (.own (ow s d)) k ((es.drop (l.getD 0).toNat).take ((h.getD es.length).toNat-(l.getD 0).toNat)))),oI.boxes⟩,ans,[0<=l.getD 0,l.getD 0<=h.getD es.length,h.getD es.length<=es.length])
   | _,_=>none
  else none
 | _,_,_=>none
theorem cD.yv{P:Program}{t:TypeId}{p:aG}{v:Value}{cW hi iM:Option Operand}
  (aZ:cD w0 st a w ω τ) (hp:cO (Sat w ω τ) p v) (h:yv P st d t p cW hi iM ans=some (bu,cm,obs)) (bc:cK obs):
  ∃z,(Instr.sliceAt t v (cW.map a.eval) (hi.map a.eval) (iM.map a.eval)).run P w=.ok z w/\Rel w0 bu (a.put (some d) z) w:=by
 unfold Go.Sx.yv at h;split at h
 ·rename_i e k s cu es e1 e2;split at h
  ·rename_i ba;obtain⟨rfl,ak⟩:=ba;split at h
   ·rename_i l bD cn ed;simp only[aW,bA]at h;obtain⟨rfl,_,rfl⟩:=h;obtain⟨hu,i,nh,bp⟩:=wi e1;obtain⟨aH,_⟩:=aG.dN e2 hp;obtain⟨cC,cg,cE,_⟩:=bc;have aB:=zX aZ cn;have aJ:=zX aZ ed;have p1:(cW.map a.eval=none/\l.getD 0=0)\/∃k,cW.map a.eval=some (.int k (l.getD 0)):=by
     grind
    have q4:(hi.map a.eval=none/\bD.getD es.length=es.length)\/∃k,hi.map a.eval=some (.int k (bD.getD es.length)):=by
     grind
    have key:∀(L m:Nat) (z:Value),L<=m->b1 w (fun b=>jS s (ow s d) L (ω b)) (Tag.own (ow s d)).R (.J k ((es.drop L).take (m-L))) z->
      Rel w0 ⟨(st.map (aE.cF (kC s (ow s d)) fun _=>true)).env.set d (.one (.J (.own (ow s d)) k ((es.drop L).take (m-L)))),(st.map (aE.cF (kC s (ow s d)) fun _=>true)).boxes⟩ (a.put (some d) z) w:=by
     intro L m z _ C6;have U:cD w0 (st.map (aE.cF (kC s (ow s d)) fun _=>true)) a w (fun b=>jS s (ow s d) L (ω b)) (gh τ (ow s d) k z):=
      aZ.ei _ (Js (by omega)).sat aZ.below (fun b ay=>aZ.owned b (Jr ay)) (fun id b ay=>⟨ug.2 ay,rfl⟩) (fun id b ay=>ug.1 ay)
       (fun t bZ=>by simp only[gh];grind)
     exact⟨_,_,U.put (p:=.one (.J (.own (ow s d)) k ((es.drop L).take (m-L)))) ⟨C6,by simp[Tag.eb,gh]⟩⟩
    cases aH with
    | nil _ _ a0=>
     simp only[eh] at*;have bz:l.getD 0=0:=by omega
     have XU:bD.getD ((0:Nat):Int)=0:=by omega
     refine⟨.slice a0 0 0,?_,?_⟩
     ·simp only[Instr.sliceAt,Sem.run_bind,run_underlying hu,Result.andThen_ok,Instr.slice,Option.map_none];rw[zW p1 q4 cC cg cE];simp_all[sizeOf,typeInfo]
     refine key _ _ _ (by omega) ?_;simp only[List.drop_nil,List.take_nil];exact .nil _ _ _
    | row R k es b off cap arr ty cT us ay dY ao dI ba jN aI=>
     refine⟨sliced (some ⟨b,off,none⟩) (l.getD 0).toNat (bD.getD es.length).toNat cap k,?_,?_⟩
     ·simp only[Instr.sliceAt,Sem.run_bind,run_underlying hu,Result.andThen_ok,Instr.slice,Option.map_none];rw[zW p1 q4 cC cg (by omega)];simp_all[sizeOf,typeInfo,sliced]
     refine key _ _ _ (by omega) ?_;have:=b1.sub (.row _ k es b off cap arr ty cT us ay dY ao dI ba jN aI) (l:=(l.getD 0).toNat) (m:=(bD.getD es.length).toNat) (by omega) (by omega)
      (iE:=fun q o=>match q with | []=>o=.tok s [] | (i,j)::r=>o=.tok s ((i+(l.getD 0).toNat,j)::r)) (fun o h=>h) (fun i j q o ayc h=>by
       grind[Tag.R,Nat.sub_add_cancel])
     refine this.frame fun c q _ aL=>⟨?_,rfl⟩
     simp only[Tag.R];cases q with
     | nil=>grind[jS]
     | cons x r=>
      obtain⟨i,j⟩:=x;simp only at aL;rw[aL];have cB:¬(i+(l.getD 0).toNat<(l.getD 0).toNat):=by omega
      simp_all[jS,gy,bH,Nat.add_sub_cancel]
   cases h
  cases h
 cases h
end Go.Sx
namespace Go.Sx
open Go.RowKit
def laid(arr:Array Value)(o:Nat)(cs:List Value):Array Value:=(arr.toList.take o++cs++arr.toList.drop (o+cs.length)).toArray
theorem qq{arr:Array Value}{o:Nat}{cs:List Value}(h:o+cs.length<=arr.size):(laid arr o cs).size=arr.size:=by
 simp[laid];omega
theorem l7{arr:Array Value}{o:Nat}{cs:List Value}(h:o+cs.length<=arr.size)(x:Nat):
  (laid arr o cs)[x]?=if o<=x/\x<o+cs.length then cs[x-o]? else arr[x]?:=by
 simp only[laid,oK,mN];have ar:(arr.toList.take o).length=o:=by simp;omega
 split
 ·rename_i aq;rw[B6 (by omega),B7 (by omega),ar]
 rename_i aq;by_cases U:x<o
 ·rw[B7 (by omega),jZ,bL U,lJ]
 rw[B6 (by omega),B6 (by omega),ar,kW,lJ]
 congr 1
 omega
theorem DP{P:Program}(w:World)(dm bf ty elem:TypeId)(k b o Cx XT:Nat)(arr:Array Value)(tb:TypeId)(a:Addr)(Bn VI:Nat)(cs:List Value)
  (hu:P.underlying dm=some (.slice elem)) (ak:(P.info? elem).map (·.size)=some k) (ay:w.heap[b]?=some (.cells arr tb (0,0))) (a':cs.length=Nat.min Bn Cx*k)
  (iK:∀j v,cs[j]?=some v->w.cell? (a.add j)=some v) (ee:o+cs.length<=arr.size) (U:∀v∈cs,v.oneCell'=true):
  (Builtin.copy_ #[dm,bf] ty #[.slice (some ⟨b,o,none⟩) Cx XT,.slice (some a) Bn VI]).run P w=.ok (goInt (Nat.min Bn Cx)) (w.setRow b (laid arr o cs)):=by
 have b8:=run_firstCells_some (P:=P) w k (Nat.min Bn Cx) a Bn VI cs a' iK;have fc:=run_storeCells_at P b o tb cs 0 arr w ay (by simpa using ee) U;simp only[nO]at fc;cases aL:P.info? elem with
 | none=>simp[aL]at ak
 | some i=>
  have hi:i.size=k:=by simpa[aL]using ak
  subst hi;simp[Builtin.copy_,run_underlying hu,Builtin.lenOf,sizeOf,typeInfo,aL,b8,fc,laid]
theorem QO{P:Program}(w:World)(t e ty:TypeId)(z:Value)(bZ:P.underlying t=some (.slice e))(bx:(zeroValue e).run P w=.ok z w)(b o n c:Nat)(arr:Array Value)(tb:TypeId)
  (ay:w.heap[b]?=some (.cells arr tb (0,0))) (ee:o+n*z.cells.size<=arr.size) (U:∀v∈z.cells.toList,v.oneCell'=true):
  ∃zs:List Value,zs.length=n*z.cells.size/\(∀m,m<n*z.cells.size->zs[m]?=z.cells[m % z.cells.size]?)/\(Builtin.clear_ #[t] ty #[.slice (some ⟨b,o,none⟩) n c]).run P w=.ok (.tuple #[]) (if n=0 then w else w.setRow b (laid arr o zs)):=by
 refine⟨(Builtin.zeroCells z.cells n).toList,by simp[Builtin.zeroCells],fun m hm=>?_,?_⟩
 ·have C5:0<z.cells.size:=by
   rcases Nat.eq_zero_or_pos z.cells.size with h | h
   ·rw[h]at hm;simp at hm
   exact h
  simp only[Builtin.zeroCells,Array.toList_map,Array.toList_range,dP,List.getElem?_range hm,rR];rw[getElem!_pos z.cells _ (Nat.mod_lt _ C5),lI (Nat.mod_lt _ C5)]
 have p4:∀v∈(Builtin.zeroCells z.cells n).toList,v.oneCell'=true:=by
  intro v OV;simp only[Builtin.zeroCells,Array.toList_map,mO,Array.toList_range,List.mem_range]at OV;obtain⟨i,hi,rfl⟩:=OV;have C5:0<z.cells.size:=by
   rcases Nat.eq_zero_or_pos z.cells.size with h | h
   ·rw[h]at hi;simp at hi
   exact h
  refine U _ ?_;rw[getElem!_pos z.cells _ (Nat.mod_lt _ C5)];simp
 have fc:=run_storeCells_at P b o tb (Builtin.zeroCells z.cells n).toList 0 arr w ay (by simpa[Builtin.zeroCells]using ee) p4;simp only[nO]at fc;cases n with
 | zero=>simp[Builtin.clear_,run_underlying bZ]
 | succ n=>simp[Builtin.clear_,run_underlying bZ,bx,fc,laid]
def x9(t k:Nat)(cv:List (List D)):aE->aE
 | .J (.own s) cu es=>if s=t then .J (.own t) k cv else .J (.own s) cu es
 | l=>aE.cF (fm t) (fun _=>true) l
def DQ(P:Program)(st:aF)(d:Nat)(t:TypeId)(x:Operand)(cW:Option Operand)(eC:TypeId)(ans:List cd):Stepped:=
 match qm P t,(st.bn x).leaf with
 | some (e,k),some (.J (.own gW) cu es)=>
  match P.info? e with
  | some i=>
   match i.zero,l5 st cW with
   | some z,some l=>
    if k=cu/\t=eC/\z.cells.size=k/\z.cells.toList.all (fun v=>v.oneCell')=true/\d<st.env.length then
     let oI:=st.map (x9 gW k (es.take (l.getD 0).toNat++List.replicate (es.length-(l.getD 0).toNat) (z.cells.toList.map .v)))
     some (⟨oI.env.set d .cw,oI.boxes⟩,ans,[0<=l.getD 0,l.getD 0<es.length,Flat es])
    else none
   | _,_=>none
  | none=>none
 | _,_=>none
theorem cD.clear{P:Program}{w0:eE}{st bu:aF}{a:Act}{w:World}{ω:Own}{τ:Nat->Nat×Value}{d:Nat}{t eC:TypeId}{x:Operand}{cW:Option Operand}{ans cm:List cd}{obs:List Prop}
  (aZ:cD w0 st a w ω τ) (h:DQ P st d t x cW eC ans=some (bu,cm,obs)) (bc:cK obs):
  d<a.tmps.size/\∃y z aN,(Instr.sliceAt t (a.eval x) (cW.map a.eval) none none).run P w=.ok y w/\(∀ty,(Builtin.clear_ #[eC] ty #[y]).run P w=.ok z aN)/\Rel w0 bu (a.put (some d) y) aN:=by
 unfold DQ at h;split at h
 ·rename_i e k gW cu es he aq;split at h
  ·rename_i i hi;split at h
   ·rename_i z l bp Oz;split at h
    ·rename_i ao;obtain⟨rfl,rfl,pd,zJ,pX⟩:=ao;refine⟨by rw[aZ.size];exact pX,?_⟩;simp only[aW,bA]at h;obtain⟨rfl,_,rfl⟩:=h;obtain⟨cC,cg,CU,_⟩:=bc;obtain⟨hu,i2,ni,dI⟩:=wi he;obtain⟨aH,bD⟩:=aG.dN aq (aZ.bn x);have aB:=zX aZ Oz;have p1:(cW.map a.eval=none/\l.getD 0=0)\/∃k,cW.map a.eval=some (.int k (l.getD 0)):=by
      rcases aB with⟨h,rfl⟩ | ⟨k,n,h,rfl⟩
      ·exact .inl ⟨h,rfl⟩
      exact .inr ⟨k,h⟩
     generalize q3:a.eval x=lH at aH bD;cases aH with
     | nil _ _ a0=>simp at cg;omega
     | row R k es b off cap arr ty cT us ay dY gE ak ba jN aI=>
      have k1:ω b=.tok gW []:=dY;obtain⟨nn,tn,uQ,hR⟩:=aZ.owned b (by rw[k1];simp);rw[ay]at hR;simp only[aW,Obj.cells.injEq]at hR;obtain⟨rfl,rfl,rfl⟩:=hR;obtain⟨L,cB⟩:∃L,L=(l.getD 0).toNat:=⟨_,rfl⟩
      have axK:L<es.length:=by omega
      rw[<-cB];have ee:off+L*k+(es.length-L)*z.cells.size<=arr.size:=by
       rw[pd,Gk,<-hq,show L+(es.length-L)=es.length by omega];have:=hN k gE;omega
      have ZS:(zeroValue e).run P w=.ok z w:=by simp[zeroValue,typeInfo,hi,bp]
      obtain⟨zs,lZ,O5,zg⟩:∃zs:List Value,zs.length=(es.length-L)*z.cells.size/\(∀m,m<(es.length-L)*z.cells.size->zs[m]?=z.cells[m % z.cells.size]?)/\
        ∀ty,(Builtin.clear_ #[t] ty #[.slice (some ⟨b,off+L*k,none⟩) (es.length-L) (cap-L)]).run P w=.ok (.tuple #[]) (if es.length-L=0 then w else w.setRow b (laid arr (off+L*k) zs)):=by
       obtain⟨zs,U,aa,aB⟩:=QO (P:=P) w t e 0 z hu ZS b (off+L*k) (es.length-L) (cap-L) arr ty ay ee (fU.1 zJ);exact⟨zs,U,aa,fun qJ=>aB⟩
      rw[bH (by omega)]at zg;rw[pd]at lZ O5;have c1:off+L*k+zs.length<=arr.size:=by rw[lZ,<-pd];exact pd▸ee
      refine⟨.slice (some ⟨b,off+L*k,none⟩) (es.length-L) (cap-L),_,_,?_,zg,?_⟩
      ·simp only[Instr.sliceAt,Sem.run_bind,run_underlying hu,Result.andThen_ok,Instr.slice,Option.map_none];rw[zW (h:=es.length) p1 (.inl ⟨rfl,rfl⟩) cC (by omega) (by omega)];have db:¬cap=L:=by omega
       simp[sizeOf,typeInfo,ni,dI,<-cB,db,Addr.add_lit]
      -- ayV awz behind it
      have k4:=setRow_heap w b arr (laid arr (off+L*k) zs) ty (0,0) ay;have gF:b1 (w.setRow b (laid arr (off+L*k) zs)) ω (Tag.own gW).R (.J k (es.take L++List.replicate (es.length-L) (z.cells.toList.map .v))) (.slice (some ⟨b,off,none⟩) es.length cap):=by
       have hlen:(es.take L++List.replicate (es.length-L) (z.cells.toList.map D.v)).length=es.length:=by simp;omega
       have fo:∀x j d,c5 (es.take L++List.replicate (es.length-L) (z.cells.toList.map D.v)) x j=some d->∃v,d=.v v/\(laid arr (off+L*k) zs)[off+x*k+j]?=some v/\v.oneCell'=true:=by
        intro x j d ec;rw[AG]at ec;have zB:(es.take L).length=L:=by simp;omega
        rw[zB]at ec;split at ec
        ·rename_i HV;have vh:c5 es x j=some d:=by
          unfold c5 at ec ⊢;rwa[jZ,bL HV]at ec
         obtain⟨fR,kM⟩:=sS ba vh;have q6:∃v,d=.v v:=by
          unfold c5 at vh;cases e1:es[x]? with
          | none=>simp[e1]at vh
          | some ds=>
           simp only[e1,nL]at vh;exact CU ds (fI e1) d (fI vh)
         obtain⟨v,rfl⟩:=q6;have aJ:=aI x j _ vh;have a6:=jN x j _ vh;generalize us x j=u at aJ a6;cases aJ with
         | v _ _ bF=>
          refine⟨v,rfl,?_,bF⟩;rw[l7 c1,bH ?_,a6];have:(x+1)*k<=L*k:=hN _ HV;rw[hq]at this;omega
        rename_i HV;unfold c5 at ec;rw[B9]at ec;split at ec
        ·rename_i zH;simp only[nL,dP,ca]at ec;obtain⟨v,bx,rfl⟩:=ec;have zo:j<k:=by
          have:=(fP.1 bx).1;rw[NH,pd]at this;exact this
         refine⟨v,rfl,?_,fU.1 zJ v (fI bx)⟩;obtain⟨m,hm⟩:∃m,x=L+m:=⟨x-L,by omega⟩
         subst hm;have Za:m*k+j<(es.length-L)*k:=by
          have:(m+1)*k<=(es.length-L)*k:=hN _ (by omega);rw[hq]at this;omega
         have e1:off+(L+m)*k+j=off+L*k+(m*k+j):=by rw[hq];omega
         rw[e1,l7 c1,bL (by omega),show off+L*k+(m*k+j)-(off+L*k)=m*k+j by omega,O5 _ Za,show (m*k+j) % k=j by rw[Nat.mul_comm m k,Nat.mul_add_mod,Ca zo]];simpa using bx
        simp at ec
       have:=b1.row (w:=w.setRow b (laid arr (off+L*k) zs)) (ω:=ω) (Tag.own gW).R k (es.take L++List.replicate (es.length-L) (z.cells.toList.map .v)) b off cap _ ty (0,0)
        (fun x j=>(laid arr (off+L*k) zs).getD (off+x*k+j) undef) k4 dY (by omega) (by rw[qq c1];exact ak)
        (by
         intro e' pZ;rcases lM.1 pZ with h | h
         ·exact ba e' (uU h)
         rw[List.eq_of_mem_replicate h];simp[pd])
        (fun x j d ec=>by obtain⟨v,rfl,U,_⟩:=fo x j d ec;simp[eR,U])
        (fun x j d ec=>by
         obtain⟨v,rfl,U,aa⟩:=fo x j d ec;have:(laid arr (off+L*k) zs).getD (off+x*k+j) undef=v:=by simp[eR,U]
         rw[this];exact .v _ _ aa)
       rwa[hlen]at this
      have bn:lP w ω τ (w.setRow b (laid arr (off+L*k) zs)) ω τ (fm gW) (fun _=>true):=by
       refine⟨?_,?_,fun id c _ ao=>ao,rfl,fun _ _=>rfl⟩
       ·intro g eu c q ax _ aL;obtain⟨rfl,zu⟩:=DN ax aL;exact⟨aL,setRow_other w b c _ fun e=>zu [] (by rw[e];exact k1)⟩
       intro g eu y ax bM;cases g with
       | free=>simp only[fm,aW]at ax;subst ax;trivial
       | own x=>
        simp only[fm]at ax;split at ax
        ·cases ax
        simp only[aW]at ax;subst ax;exact bM
       | ro x=>
        simp only[fm]at ax;split at ax
        ·cases ax
        simp only[aW]at ax;subst ax;trivial
      have eN:∀kQ v,Sat w ω τ kQ v->Sat (w.setRow b (laid arr (off+L*k) zs)) ω τ (x9 gW k (es.take L++List.replicate (es.length-L) (z.cells.toList.map .v)) kQ) v:=by
       intro kQ v HR;by_cases Ok:∃s cu cv,kQ=.J (.own s) cu cv
       ·obtain⟨s,cu,cv,rfl⟩:=Ok;simp only[x9];split
        ·rename_i fc;subst fc;obtain⟨_,aa⟩:=HR;simp only[Tag.eb]at aa bD;rw[aa]at bD;simp only[bA]at bD;obtain⟨rfl,rfl⟩:=bD;exact⟨gF,aa⟩
        rename_i fc;have:=bn.sat (.J (.own s) cu cv) v HR;simpa[aE.cF,fm,fc]using this
       have eg:x9 gW k (es.take L++List.replicate (es.length-L) (z.cells.toList.map .v)) kQ=aE.cF (fm gW) (fun _=>true) kQ:=by
        unfold x9;split
        ·exact absurd ⟨_,_,_,rfl⟩ Ok
        rfl
       rw[eg];exact bn.sat kQ v HR
      have U:cD w0 (st.map (x9 gW k (es.take L++List.replicate (es.length-L) (z.cells.toList.map .v)))) a (w.setRow b (laid arr (off+L*k) zs)) ω τ:=by
       refine aZ.ei _ eN (aZ.below.setRow nn _) ?_ (fun id c ao=>⟨ao,setRow_other w b c _ fun e=>by rw[e,k1]at ao;cases ao⟩) (fun id c ao=>ao) (fun _ _=>rfl);intro c ao;obtain⟨U,ko,kD,aa⟩:=aZ.owned c ao;by_cases e:c=b
       ·subst e;exact⟨U,_,ty,k4⟩
       exact⟨U,ko,kD,(setRow_other w b c _ e).trans aa⟩
      exact⟨ω,τ,U.put (p:=.cw) trivial⟩
    cases h
   cases h
  cases h
 cases h
end Go.Sx
namespace Go.Sx
open Go.RowKit
def bl.lh(p:aE->Prop):bl->Prop
 | .one l=>p l
 | .agg ls=>∀l∈ls,p l
def aG.lh(p:aE->Prop):aG->Prop
 | .aC a=>a.lh p
 | .fN as=>∀a∈as,a.lh p
variable{S kI:aE->Value->Prop}{p:aE->Prop}{f:aE->aE}{ls:List aE}
theorem kn.map'(h:∀l v,p l->S l v->kI (f l) v){vs:Array Value}(aj:∀l∈ls,p l)(ak:kn S ls vs):kn kI (ls.map f) vs:=by
 refine⟨by simpa using ak.1,fun i l ar=>?_⟩;rw[dP,ca]at ar;obtain⟨eW,b4,rfl⟩:=ar;obtain⟨u,U,aa⟩:=ak.2 i eW b4;exact⟨u,U,h _ _ (aj eW (fI b4)) aa⟩
theorem km.map'(h:∀l v,p l->S l v->kI (f l) v):∀{a:bl} {y:Value},a.lh p->km S a y->km kI (a.map f) y
 | .one l,y,aj,ak=>h _ _ aj ak
 | .agg ls,y,aj,⟨vs,e,ak⟩=>⟨vs,e,ak.map' h aj⟩
theorem cO.map'(h:∀l v,p l->S l v->kI (f l) v):∀{q:aG} {y:Value},q.lh p->cO S q y->cO kI (q.map f) y
 | .aC a,y,aj,ak=>show km kI (a.map f) y from km.map' h aj (show km S a y from ak)
 | .fN as,y,aj,⟨vs,e,a',ak⟩=>⟨vs,e,by simpa using a',fun i a hi=>by
   rw[dP,ca]at hi;obtain⟨a0,b4,rfl⟩:=hi;obtain⟨u,U,aa⟩:=ak i a0 b4;exact⟨u,U,km.map' h (aj a0 (fI b4)) aa⟩⟩
variable{w0:eE}{st:aF}{a:Act}{w aN:World}{ω bd:Own}{τ:Nat->Nat×Value}
theorem cD.awI{cR:Nat->Nat×Value}{p:aE->Prop}(h:cD w0 st a w ω τ)(f:aE->aE)
  (eN:∀l v,p l->Sat w ω τ l v->Sat aN bd cR (f l) v) (he:∀q∈st.env,q.lh p) (ay:∀id ls,dD id st.boxes=some ls->∀l∈ls,p l) (qZ:gz w0 aN) (p6:nT w0 aN bd)
  (se:∀id b,ω b=.box id->bd b=.box id/\aN.heap[b]?=w.heap[b]?) (zd:∀id b,bd b=.box id->ω b=.box id) (tG:∀t,da<=t->cR t=τ t):cD w0 (st.map f) a aN bd cR where
 defers:=h.defers
 size:=by simp[aF.map,h.size]
 below:=qZ
 owned:=p6
 fixed:=fun t bZ=>(tG t bZ).trans (h.fixed t bZ)
 pinned:=fun id b hi ay=>h.pinned id b hi (zd id b ay)
 env:=by
  intro i q aL;simp only[aF.map]at aL;rw[dP,ca]at aL;obtain⟨f',b4,rfl⟩:=aL;obtain⟨v,U,aa⟩:=h.env i f' b4;exact⟨v,U,cO.map' eN (he f' (fI b4)) aa⟩
 boxes:=by
  intro id ls ar;simp only[aF.map]at ar;rw[sQ,ca]at ar;obtain⟨jm,b4,rfl⟩:=ar;obtain⟨b,arr,ty,gD,hu,bD,ak⟩:=h.boxes id jm b4;obtain⟨U,aa⟩:=se id b gD;exact⟨b,arr,ty,U,fun dw eM=>hu dw (zd id dw eM),aa.trans bD,ak.map' eN (ay id jm b4)⟩
def aE.idx(t j:Nat):aE->List Nat
 | .aP s a b _ _ _=>if s=t/\b=j then [a] else []
 | _=>[]
def bl.idx(t j:Nat):bl->List Nat
 | .one l=>l.idx t j
 | .agg ls=>ls.flatMap (aE.idx t j)
def aG.idx(t j:Nat):aG->List Nat
 | .aC a=>a.idx t j
 | .fN as=>as.flatMap (bl.idx t j)
def aF.idx(t j:Nat)(st:aF):List Nat:=st.env.flatMap (aG.idx t j)++st.boxes.flatMap fun x=>x.2.flatMap (aE.idx t j)
def DR(t i j:Nat)(l:aE):Prop:=∀a∈l.idx t j,a=i
theorem QP{id:Nat}:∀{bs:List (Nat×List aE)} {ls:List aE},dD id bs=some ls->(id,ls)∈bs
 | [],_,h=>by cases h
 | (i,l)::r,ls,h=>by
  simp only[dD]at h;split at h
  ·rename_i hi;subst hi;rw[gd h];exact kG
  exact iA _ (QP h)
variable{t i j:Nat}
theorem aF.ZV(h:∀a∈st.idx t j,a=i):∀q∈st.env,q.lh (DR t i j):=by
 intro q aL;have U:∀a∈q.idx t j,a=i:=fun a aj=>h a (iy _ (oO.2 ⟨q,aL,aj⟩))
 have Of:∀x:bl,(∀a∈x.idx t j,a=i)->x.lh (DR t i j):=by
  intro x aq;cases x with
  | one l=>exact aq
  | agg ls=>exact fun l ar a aj=>aq a (oO.2 ⟨l,ar,aj⟩)
 cases q with
 | aC x=>exact Of x U
 | fN as=>exact fun x aq=>Of x fun a aj=>U a (oO.2 ⟨x,aq,aj⟩)
theorem aF.ZU(h:∀a∈st.idx t j,a=i){id:Nat}(ay:dD id st.boxes=some ls):∀l∈ls,DR t i j l:=by
 intro l ar a aj;exact h a (jD _ (oO.2 ⟨(id,ls),QP ay,oO.2 ⟨l,ar,aj⟩⟩))
def hk(t i j k:Nat)(cv:List (List D))(kT:Nat)(esT:List (List D)):aE->aE
 | .J (.own s) dk dM=>if s=t then .J (.own t) kT esT else .J (.own s) dk dM
 | .cL (.own s) dk dM a b=>if s=t then .cL (.own t) kT esT a b else .cL (.own s) dk dM a b
 | .J (.ro s) dk dM=>if s=t then .cw else .J (.ro s) dk dM
 | .cL (.ro s) dk dM a b=>if s=t then .cw else .cL (.ro s) dk dM a b
 | .aP s a b dk dM m=>if s=t/\b=j then (if dk=k/\m.home=true then .aP t i j k cv m else .cw) else .aP s a b dk dM m
 | .fp _ _=>.cw
 | l=>l
variable{v:Value}
theorem uc.awK{u:Value}(U:uc w ω τ t i j u)(aa:uc w ω τ t i j v):u=v:=by
 obtain⟨kT,b,off,len,cap,arr,ty,cT,ef,a2,a3,a4⟩:=U;obtain⟨ZZ,dw,ayC,ayw,lS,ci,qJ,axC,e0,fQ,tp,wS⟩:=aa;rw[ef]at e0;simp only[bA,Value.slice.injEq,aW,Addr.mk.injEq]at e0;obtain⟨rfl,⟨rfl,rfl,_⟩,_,_⟩:=e0;rw[a3]at tp;simp only[aW,Obj.cells.injEq]at tp;obtain⟨rfl,_,_⟩:=tp;rw[a4]at wS;exact gd wS
variable{k kT:Nat}{esT:List (List D)}
theorem cD.VL(h:cD w0 st a w ω τ){cv:List (List D)}{yT fy:Value}
  (j8:∀c,c<w.heap.size->ω c≠.tok t [(i,j)]->aN.heap[c]?=w.heap[c]?) (dj:∀c,c<w.heap.size->bd c=ω c) (Ix:∀c id,¬c<w.heap.size->bd c≠.box id)
  (k2:gz w0 aN) (nn:nT w0 aN bd) (su:τ t=(kT,yT)) (n':b1 aN bd (Tag.own t).R (.J kT esT) yT)
  (q5:uc w ω τ t i j fy) (o':b1 aN bd (fun q o=>o=.tok t ((i,j)::q)) (.J k cv) fy) (o7:∀a∈st.idx t j,a=i):cD w0 (st.map (hk t i j k cv kT esT)) a aN bd τ:=by
 have cT:∀{R:List (Nat×Nat)->di->Prop} {d:D} {v:Value},(∀q,¬R q (.tok t [(i,j)]))->b1 w ω R d v->b1 aN bd R d v:=by
  intro R d v a' aH;refine aH.frame fun b q bO aL=>?_
  rw[dj b bO];exact⟨aL,j8 b bO fun e=>a' q (by rw[<-e];exact aL)⟩
 have home:∀{s a b:Nat} {u:Value},uc w ω τ s a b u->uc aN bd τ s a b u:=by
  rintro s a b u ⟨kT,c,off,len,cap,arr,ty,cT,ef,a2,a3,a4⟩;have bO:c<w.heap.size:=(jF.1 a3).1;exact⟨kT,c,off,len,cap,arr,ty,cT,ef,by rw[dj c bO];exact a2,(j8 c bO (by rw[a2];simp)).trans a3,a4⟩
 refine h.awI (p:=DR t i j) _ ?_ (aF.ZV o7) (fun id ls ay=>aF.ZU o7 ay) k2 nn (fun id b ay=>?_) (fun id b ay=>?_) (fun _ _=>rfl)
 ·intro l v ax ak;cases l with
  | cw=>exact trivial
  | v x=>exact ak
  | bg c=>exact ak
  | ptr id o=>
   obtain⟨c,ao,e⟩:=ak;exact⟨c,by rw[dj c (h.owned.lt (by simp[ao]))];exact ao,e⟩
  | gC f ids=>
   obtain⟨bs,e,a',hi⟩:=ak;refine⟨bs,e,a',fun x id hid=>?_⟩;obtain⟨b,U,aa⟩:=hi x id hid;exact⟨b,U,by rw[dj b (h.owned.lt (by simp[aa]))];exact aa⟩
  | hU ds o=>
   obtain⟨c,e,aH⟩:=ak;exact⟨c,e,cT (fun q aL=>by cases aL) aH⟩
  | fd d=>exact cT (R:=Tag.free.R) (fun q aL=>by cases aL) ak
  | dt t0 dk dM=>exact⟨cT (R:=Tag.free.R) (fun q aL=>by cases aL) ak.1,ak.2⟩
  | fp=>exact trivial
  | J g dk dM=>
   cases g with
   | free=>exact⟨cT (R:=Tag.free.R) (fun q aL=>by cases aL) ak.1,ad⟩
   | own s=>
    simp only[hk];split
    ·rename_i e;subst e;have aa:=ak.2;simp only[Tag.eb]at aa;rw[su]at aa;simp only[bA]at aa;rw[<-aa.2];exact⟨n',su⟩
    rename_i db;exact⟨cT (R:=(Tag.own s).R) (fun q aL=>by simp only[Tag.R,di.tok.injEq]at aL;exact db aL.1.symm) ak.1,ak.2⟩
   | ro s=>
    simp only[hk];split
    ·exact trivial
    rename_i db;refine⟨cT (R:=(Tag.ro s).R) (fun q aL=>?_) ak.1,ad⟩;rcases aL with aL | ⟨dU,aL⟩
    ·cases aL
    simp only[di.tok.injEq]at aL;exact db aL.1.symm
  | cL g dk dM x y=>
   obtain⟨fQ,qg,pJ,e,ni,np,n7⟩:=ak;cases g with
   | free=>exact⟨fQ,qg,pJ,e,ni,cT (R:=Tag.free.R) (fun q aL=>by cases aL) np,ad⟩
   | own s=>
    simp only[hk];split
    ·rename_i e1;subst e1;simp only[Tag.eb]at n7;rw[su]at n7;simp only[bA]at n7;obtain⟨rfl,rfl⟩:=n7;have ar:esT.length=dM.length:=by
      obtain⟨_,_,e2⟩:=n'.len;simp only[Value.slice.injEq]at e2;exact e2.2.1.symm
     refine⟨fQ,qg,pJ,e,by omega,?_,?_⟩
     ·rw[ar];exact n'
     rw[ar];exact su
    rename_i db;exact⟨fQ,qg,pJ,e,ni,cT (R:=(Tag.own s).R) (fun q aL=>by simp only[Tag.R,di.tok.injEq]at aL;exact db aL.1.symm) np,n7⟩
   | ro s=>
    simp only[hk];split
    ·exact trivial
    rename_i db;refine⟨fQ,qg,pJ,e,ni,cT (R:=(Tag.ro s).R) (fun q aL=>?_) np,ad⟩;rcases aL with aL | ⟨dU,aL⟩
    ·cases aL
    simp only[di.tok.injEq]at aL;exact db aL.1.symm
  | aP s x y dk dM m=>
   simp only[hk];obtain⟨u,hu,aH,hm⟩:=ak;split
   ·rename_i ao;obtain⟨rfl,rfl⟩:=ao;have aq:x=i:=ax x (by simp[aE.idx]);subst aq;split
    ·rename_i ao;obtain⟨rfl,Y'⟩:=ao;have e:=(hm Y').awK q5;subst e;have ar:cv.length=dM.length:=by
      obtain⟨_,_,e1⟩:=o'.len;obtain⟨_,_,e2⟩:=aH.len;rw[e1]at e2;simp only[Value.slice.injEq]at e2;omega
     exact⟨u,by rw[ar];exact hu,o',fun _=>home q5⟩
    exact trivial
   rename_i ao;refine⟨u,hu,cT (fun q aL=>?_) aH,fun bD=>home (hm bD)⟩;simp only[di.tok.injEq,rS,bA]at aL;exact ao ⟨aL.1.symm,aL.2.1.2.symm⟩
 ·have bO:=h.owned.lt (b:=b) (by simp[ay]);exact⟨by rw[dj b bO];exact ay,j8 b bO (by rw[ay];simp)⟩
 by_cases bO:b<w.heap.size
 ·rw[dj b bO]at ay;exact ay
 exact absurd ay (Ix b id bO)
def s8(t:Nat):aE->Option (Nat×List (List D))
 | .J (.own s) k es=>if s=t then some (k,es) else none
 | _=>none
def uh(t:Nat):List aG->Option (Nat×List (List D))
 | []=>none
 | .aC (.one l)::r=>match s8 t l with | some x=>some x | none=>uh t r
 | .aC (.agg ls)::r=>match ls.findSome? (s8 t) with | some x=>some x | none=>uh t r
 | _::r=>uh t r
def DS(t:Nat)(st:aF):Option (Nat×List (List D)):=
 match uh t st.env with
 | some x=>some x
 | none=>(st.boxes.find? fun x=>(x.2.findSome? (s8 t)).isSome).bind fun x=>(dD x.1 st.boxes).bind fun ls=>ls.findSome? (s8 t)
theorem Jt{l:aE}(h:s8 t l=some (kT,esT))(ak:Sat w ω τ l v):Sat w ω τ (.J (.own t) kT esT) v:=by
 unfold s8 at h;split at h
 ·split at h
  ·rename_i e;subst e;simp only[aW,bA]at h;obtain⟨rfl,rfl⟩:=h;exact ak
  cases h
 cases h
theorem QQ{vs:Array Value}(h:ls.findSome? (s8 t)=some (kT,esT))(ak:kn (Sat w ω τ) ls vs):∃v,Sat w ω τ (.J (.own t) kT esT) v:=by
 obtain⟨l,ar,aa⟩:=List.exists_of_findSome?_eq_some h;obtain⟨x,aq⟩:=oN.1 ar;obtain⟨u,_,hu⟩:=ak.2 x l aq;exact⟨u,Jt aa hu⟩
theorem DT:∀{b7:List aG},uh t b7=some (kT,esT)->(∀p∈b7,∃v,cO (Sat w ω τ) p v)->∃v,Sat w ω τ (.J (.own t) kT esT) v
 | [],h,_=>by cases h
 | p::r,h,ak=>by
  have aH:∀p∈r,∃v,cO (Sat w ω τ) p v:=fun p hp=>ak p (iA _ hp)
  obtain⟨v,bx⟩:=ak p kG;cases p with
  | fN as=>exact DT (by simpa[uh]using h) aH
  | aC x=>
   cases x with
   | one l=>
    simp only[uh]at h;split at h
    ·rename_i y e;simp only[aW]at h;subst h;exact⟨v,Jt e bx⟩
    exact DT h aH
   | agg ls=>
    simp only[uh]at h;split at h
    ·rename_i y e;simp only[aW]at h;subst h;obtain⟨vs,_,bx⟩:=bx;exact QQ e bx
    exact DT h aH
theorem cD.root(h:cD w0 st a w ω τ)(e:DS t st=some (kT,esT)):∃v,Sat w ω τ (.J (.own t) kT esT) v:=by
 unfold DS at e;split at e
 ·rename_i x e1;simp only[aW]at e;subst e;refine DT e1 fun p hp=>?_
  obtain⟨x,aq⟩:=oN.1 hp;obtain⟨v,_,bx⟩:=h.env x p aq;exact⟨v,bx⟩
 rw[mf]at e;obtain⟨x,_,e⟩:=e;rw[mf]at e;obtain⟨ls,ay,e⟩:=e;obtain⟨b,arr,ty,_,_,_,ak⟩:=h.boxes x.1 ls ay;exact QQ e ak
theorem QR{cv:List (List D)}{jf:List D}{yT fy:Value}(ak:Sat w ω τ (.J (.own t) kT esT) yT)
  (j8:∀c,c<w.heap.size->ω c≠.tok t [(i,j)]->aN.heap[c]?=w.heap[c]?) (dj:∀c,c<w.heap.size->bd c=ω c)
  (q5:uc w ω τ t i j fy) (o':b1 aN bd (fun q o=>o=.tok t ((i,j)::q)) (.J k cv) fy) (eU:esT[i]?=some jf):b1 aN bd (Tag.own t).R (.J kT (esT.set i (jf.set j (.J k cv)))) yT:=by
 obtain⟨aH,bD⟩:=ak;simp only[Tag.eb]at bD;obtain⟨ZZ,b6,IN,Pf,NW,tn,uQ,axD,ef,a2,a3,a4⟩:=q5;rw[bD]at ef;simp only[bA]at ef;obtain⟨rfl,rfl⟩:=ef;have jL:i<esT.length:=(fP.1 eU).1;have hlen:(esT.set i (jf.set j (.J k cv))).length=esT.length:=hr;generalize bM:Value.slice (some ⟨b6,IN,none⟩) Pf NW=NF at aH;cases aH with
 | nil=>simp at jL
 | row R kT esT b off cap arr ty cT us ay dY ao dI ba hu aI=>
  simp only[Value.slice.injEq,aW,Addr.mk.injEq]at bM;obtain⟨⟨rfl,rfl,_⟩,rfl,rfl⟩:=bM;rw[ay]at a3;simp only[aW,Obj.cells.injEq]at a3;obtain⟨rfl,_,_⟩:=a3;have vf:b6<w.heap.size:=(jF.1 ay).1;have CV:jf.length=kT:=ba jf (fI eU);have vn:∀e∈esT.set i (jf.set j (.J k cv)),e.length=kT:=by
   intro e he;rcases qP he with h | rfl
   ·exact ba e h
   rw[hr];exact CV
  have key:∀x y d,c5 (esT.set i (jf.set j (.J k cv))) x y=some d->arr[IN+x*kT+y]?=some (us x y)/\b1 aN bd (fun q=>(Tag.own t).R ((x,y)::q)) d (us x y):=by
   intro x y d ec;have HW:=sS vn ec;rw[hlen]at HW;obtain⟨d0,CP⟩:=PY ba HW.1 HW.2;have vq:=hu x y d0 CP;refine⟨vq,?_⟩;rw[Je jL]at ec;by_cases aq:x=i
   ·subst aq;rw[bL rfl,oM]at ec;by_cases Iv:j=y
    ·subst Iv;rw[bL rfl,bL (by omega)]at ec;rw[<-gd ec];rw[a4]at vq;rw[<-gd vq];exact o'
    rw[bH Iv]at ec;have pV:c5 esT x y=some d:=by simp[c5,eU,ec]
    refine (aI x y d pV).frame fun c q ao aL=>?_
    rw[dj c ao];refine⟨aL,j8 c ao fun e=>?_⟩;simp only[Tag.R,e,di.tok.injEq,rS,bA]at aL;exact Iv aL.2.1.2
   rw[bH aq]at ec;refine (aI x y d ec).frame fun c q ao aL=>?_
   rw[dj c ao];refine⟨aL,j8 c ao fun e=>?_⟩;simp only[Tag.R,e,di.tok.injEq,rS,bA]at aL;exact aq aL.2.1.1.symm
  have k1:ω b6=.tok t []:=dY;have:=b1.row (w:=aN) (ω:=bd) (Tag.own t).R kT (esT.set i (jf.set j (.J k cv))) b6 IN NW arr ty cT us ((j8 b6 vf (by rw[k1];simp)).trans ay) (by rw[dj b6 vf];exact k1) (by omega) dI vn
   (fun x y d aI=>(key x y d aI).1) (fun x y d aI=>(key x y d aI).2)
  rw[hlen]at this;exact this
def Ju(P:Program)(st:aF)(ty:TypeId)(t i j k:Nat)(es:List (List D))(x y:Nat)(q:aG)(ans:List cd):Stepped:=
 match q.leaves,P.info? ty,DS t st,ans with
 | some xs,some inf,some (kT,esT),.el ds::.el jf::r=>
  match xs.mapM aE.iv with
  | some ys=>
   if xs.length=inf.size/\ds.length=k/\y+ys.length<=k/\xs.all (fun l=>l.tok.isNone)=true then
    some (st.map (hk t i j k (es.set x (k0 ds y ys)) kT (esT.set i (jf.set j (.J k (es.set x (k0 ds y ys)))))),r,(es[x]?=some ds)::(esT[i]?=some jf)::(st.idx t j).map fun a=>a=i)
   else none
  | none=>none
 | _,_,_,_=>none
theorem ap4{l:aE}{d:D}(h:l.iv=some d)(bZ:l.tok.isNone=true){u:Value}(ak:Sat w ω τ l u):∃z,d=.v z/\u=z/\z.oneCell'=true:=by
 cases l with
 | v z=>
  simp only[aE.iv]at h;split at h
  ·simp only[aW]at h;subst h;have:u=z:=ak;exact⟨z,rfl,this,‹_›⟩
  cases h
 | bg c=>
  simp only[aE.iv,aW]at h;subst h;exact⟨_,rfl,ak,rfl⟩
 | J g k es=>
  cases g with
  | own s=>simp[aE.tok]at bZ
  | free=>cases h
  | ro s=>cases h
 | cw=>cases h
 | ptr=>cases h
 | cL=>cases h
 | hU=>cases h
 | fd=>cases h
 | dt=>cases h
 | gC=>cases h
 | aP=>cases h
 | fp=>cases h
theorem cD.awE{P:Program}{bu:aF}{ty:TypeId}{x y:Nat}{es:List (List D)}{q:aG}{p:Value}{ans cm:List cd}{obs:List Prop}
  (aZ:cD w0 st a w ω τ) (hp:Sat w ω τ (.aP t i j k es (.at_ x y)) p) (aL:cO (Sat w ω τ) q v) (h:Ju P st ty t i j k es x y q ans=some (bu,cm,obs)) (bc:cK obs):
  ∃aN,(Instr.storeAt ty p v).run P w=.ok () aN/\Rel w0 bu a aN:=by
 unfold Ju at h;split at h
 ·rename_i xs inf kT esT ds jf r e1 e2 ed;split at h
  ·rename_i ys cn;split at h
   ·rename_i ao;obtain⟨lW,lp,k3,xa⟩:=ao;simp only[aW,bA]at h;obtain⟨rfl,_,rfl⟩:=h;obtain⟨eU,xb,o7⟩:=bc;have o7:=DH o7;obtain⟨yT,n'⟩:=aZ.root ed;obtain⟨ak,p4⟩:=aG.xv e1 aL;obtain⟨O3,Iu⟩:=nx cn;obtain⟨fy,⟨b,off,cap,rfl,rfl,jL⟩,aH,hm⟩:=hp;have q5:=hm rfl;have so:=aH;cases aH with
    | nil=>simp at jL
    | row R k es b off cap arr iw cT us ay dY gE dI hc hu aI=>
     have k1:ω b=.tok t [(i,j)]:=dY;obtain⟨vl,tn,uQ,hR⟩:=aZ.owned b (by rw[k1];simp);rw[ay]at hR;simp only[aW,Obj.cells.injEq]at hR;obtain⟨rfl,rfl,rfl⟩:=hR;have vf:b<w.heap.size:=(jF.1 ay).1;have hmul:(x+1)*k<=cap*k:=hN _ (by omega);rw[hq]at hmul;have pb:v.cells.size=xs.length:=ak.1;have ee:off+x*k+y+v.cells.toList.length<=arr.size:=by simp;omega
     have fc:=run_storeCells_at P b (off+x*k+y) iw v.cells.toList 0 arr w ay (by simpa using ee) p4;simp only[nO]at fc;generalize o3:(arr.toList.take (off+x*k+y)++v.cells.toList++arr.toList.drop (off+x*k+y+v.cells.toList.length)).toArray=ci at fc;have iH:∀z:Nat,ci[z]?=if off+x*k+y<=z/\z<off+x*k+y+xs.length then v.cells[z-(off+x*k+y)]? else arr[z]?:=by
      intro z;rw[<-o3,oK,zZ (by simpa using ee)];simp[pb]
     have xn:ci.size=arr.size:=by rw[<-o3];simp;simp at ee;omega
     have k4:=setRow_heap w b arr ci iw (0,0) ay;have j8:∀c,c<w.heap.size->ω c≠.tok t [(i,j)]->(w.setRow b ci).heap[c]?=w.heap[c]?:=fun c _ ao=>setRow_other w b c ci fun e=>ao (by rw[e];exact k1)
     have o':b1 (w.setRow b ci) ω (fun q o=>o=.tok t ((i,j)::q)) (.J k (es.set x (k0 ds y ys))) (.slice (some ⟨b,off,none⟩) es.length cap):=by
      have hlen:(es.set x (k0 ds y ys)).length=es.length:=hr;have CV:ds.length=k:=lp;have nm:∀gL gM d,c5 es gL gM=some d->b1 (w.setRow b ci) ω (fun q o=>o=.tok t ((i,j)::(gL,gM)::q)) d (us gL gM):=by
       intro gL gM d pV;refine (aI gL gM d pV).frame fun c q ao eV=>⟨eV,j8 c ao fun e=>?_⟩
       rw[e]at eV;simp at eV
      have fo:∀gL gM d,c5 (es.set x (k0 ds y ys)) gL gM=some d->∃u,ci[off+gL*k+gM]?=some u/\b1 (w.setRow b ci) ω (fun q o=>o=.tok t ((i,j)::(gL,gM)::q)) d u:=by
       intro gL gM d ec;rw[Je jL]at ec;by_cases aq:gL=x
       ·subst aq;rw[bL rfl,Pv (by omega)]at ec;split at ec
        ·rename_i bM;obtain⟨l,iI,c1⟩:=Iu _ _ ec;obtain⟨u,gG,fw⟩:=ak.2 _ _ iI;obtain⟨z,rfl,rfl,bp⟩:=ap4 c1 (fU.1 xa l (fI iI)) fw;refine⟨u,?_,.v _ _ bp⟩;rw[iH,bL (by omega),<-gG]
         congr 1;omega
        rename_i bM;have pV:c5 es gL gM=some d:=by simp[c5,eU,ec]
        refine⟨us gL gM,?_,nm gL gM d pV⟩;rw[iH,bH (by omega),hu gL gM d pV]
       rw[bH aq]at ec;obtain⟨fR,ZO⟩:=sS hc ec;refine⟨us gL gM,?_,nm gL gM d ec⟩;rw[iH,bH ?_,hu gL gM d ec];rcases Nat.lt_or_gt_of_ne aq with h | h
       ·have:(gL+1)*k<=x*k:=hN _ h;rw[hq]at this;omega
       have:(x+1)*k<=gL*k:=hN _ h;rw[hq]at this;omega
      have p8:∀e∈es.set x (k0 ds y ys),e.length=k:=by
       intro e he;rcases qP he with h | rfl
       ·exact hc e h
       rw[Pw (by omega)];exact CV
      have:=b1.row (w:=w.setRow b ci) (ω:=ω) (fun q o=>o=.tok t ((i,j)::q)) k (es.set x (k0 ds y ys)) b off cap ci iw (0,0) (fun gL gM=>ci.getD (off+gL*k+gM) undef) k4 k1 (by omega) (by omega) p8
       (fun x y d ez=>by obtain⟨u,U,_⟩:=fo x y d ez;rw[U];simp[eR,U])
       (fun x y d ez=>by obtain⟨u,U,aa⟩:=fo x y d ez;have:ci.getD (off+x*k+y) undef=u:=(by simp[eR,U]);rw[this];exact aa)
      rw[hlen]at this;exact this
     refine⟨w.setRow b ci,?_,ω,τ,aZ.VL (yT:=yT) j8 (fun _ _=>rfl) (fun c id ao e=>?_) (aZ.below.setRow vl ci) ?_ n'.2 (QR n' j8 (fun _ _=>rfl) q5 o' xb) q5 o' o7⟩
     ·simp only[Instr.storeAt,Instr.sureAddr,Sem.run_bind,Sem.run_pure,Result.andThen_ok,storeVar,sizeOf,typeInfo,run_program,e2];have Zy:¬(v.cells.size≠inf.size):=by simp;omega
      rw[bH Zy];exact fc
     ·exact ao (aZ.owned.lt (by rw[e];simp))
     intro c ji;obtain⟨aB,ko,kD,aJ⟩:=aZ.owned c ji;by_cases ze:c=b
     ·subst ze;exact⟨aB,ci,iw,k4⟩
     exact⟨aB,ko,kD,(setRow_other w b c ci ze).trans aJ⟩
   cases h
  cases h
 cases h
end Go.Sx
namespace Go.Sx
open Go.RowKit
variable{i:Nat}
theorem QS{α:Type}{l:List α}{a:α}(h:l[i]?=some a):l.set i a=l:=by
 apply List.ext_getElem?;intro x;rw[oM];by_cases aq:i=x
 ·subst aq;have:=(fP.1 h).1;rw[bL rfl,bL this,h]
 rw[bH aq]
def Jv(P:Program)(st:aF)(d:Nat)(hV:TypeId)(t i j k:Nat)(es:List (List D))(y:Operand)(ans:List cd):Stepped:=
 match qm P hV,DS t st,ans with
 | some (e,cu),some (kT,esT),.el jf::fl=>
  match P.info? e,u3 t k (st.bn y) fl with
  | some inf,some (bS,none,u2,obs)=>
   match inf.zero with
   | some z=>
    if cu=k/\z.cells.size=k/\0<k then
     some (⟨(st.map (hk t i j k es kT esT)).env.set d (.one (.aP t i j k (es++bS) .lQ)),(st.map (hk t i j k es kT esT)).boxes⟩,u2,
      ((es.length+bS.length)*inf.bytes<=140737488355328)::(es.length+bS.length<=9223372036854775807)::(esT[i]?=some jf)::(jf[j]?=some (.J k es))::(((st.idx t j).map fun a=>a=i)++obs))
    else none
   | none=>none
  | _,_=>none
 | _,_,_=>none
def tm(P:Program)(hV:TypeId)(t i j k:Nat)(es esT:List (List D))(q:aG)(ans:List cd):Option (aG×List cd×List Prop):=
 match qm P hV,ans with
 | some (e,cu),.el jf::fl=>
  match P.info? e,u3 t k q fl with
  | some inf,some (bS,none,u2,obs)=>
   match inf.zero with
   | some z=>
    if cu=k/\z.cells.size=k/\0<k then
     some (.one (.aP t i j k (es++bS) .lQ),u2,
      ((es.length+bS.length)*inf.bytes<=140737488355328)::(es.length+bS.length<=9223372036854775807)::(esT[i]?=some jf)::(jf[j]?=some (.J k es))::obs)
    else none
   | none=>none
  | _,_=>none
 | _,_=>none
theorem cD.tm{P:Program}{w0:eE}{st:aF}{a:Act}{w:World}{ω:Own}{τ:Nat->Nat×Value}{d:Nat}{hV ty:TypeId}{t j k kT:Nat}{es esT:List (List D)}{x y:Operand}{p:aG}{ans cm:List cd}{obs:List Prop}
  (aZ:cD w0 st a w ω τ) (hp:Sat w ω τ (.aP t i j k es .here) (a.eval x)) (h:Sx.tm P hV t i j k es esT (st.bn y) ans=some (p,cm,obs)) (bc:cK obs)
  (n':∃v,Sat w ω τ (.J (.own t) kT esT) v) (o7:∀a∈st.idx t j,a=i):
  ∃z aN,(Builtin.append_ #[hV,hV] ty #[a.eval x,a.eval y]).run P w=.ok z aN/\Rel w0 ⟨(st.map (hk t i j k es kT esT)).env.set d p,(st.map (hk t i j k es kT esT)).boxes⟩ (a.put (some d) z) aN:=by
 unfold Sx.tm at h;split at h
 ·rename_i e cu jf fl he;obtain⟨bZ,hz,k5,xm⟩:=wi he;split at h
  ·rename_i inf bS u2 xw hi iK;rw[k5]at hi;have o8:=gd hi;subst o8;split at h
   ·rename_i z bp;split at h
    ·rename_i ao;obtain⟨rfl,pd,nj⟩:=ao;simp only[aW,bA]at h;obtain⟨rfl,_,rfl⟩:=h;obtain⟨gD,hx,xb,Hi,HF⟩:=bc;obtain⟨_,news,mv⟩:=P0 (P:=P) nj (aZ.bn y) iK HF;obtain⟨yT,n'⟩:=n';obtain⟨fy,q9,aH,hm⟩:=hp;have q5:=hm rfl;have q9:a.eval x=fy:=q9;rw[q9];generalize a.eval y=eX at mv;have CU:∀gL gM d,c5 bS gL gM=some d->∃u,news[gL*cu+gM]?=some u/\d=.v u/\u.oneCell'=true:=by
      intro gL gM d aI;obtain⟨u,U,aa⟩:=mv.cell gL gM d aI;rcases aa with⟨v,rfl,rfl⟩ | ⟨s,ak,_⟩
      ·exact⟨u,U,rfl,mv.one u (fI U)⟩
      cases ak
     have fin:∀(w1:World) (bd:Own) (r:Value),(∀c,c<w.heap.size->ω c≠.tok t [(i,j)]->w1.heap[c]?=w.heap[c]?)->(∀c,c<w.heap.size->bd c=ω c)->(∀c id,¬c<w.heap.size->bd c≠.box id)->gz w0 w1->nT w0 w1 bd->
       b1 w1 bd (fun q o=>o=.tok t ((i,j)::q)) (.J cu es) fy->b1 w1 bd (fun q o=>o=.tok t ((i,j)::q)) (.J cu (es++bS)) r->
       Rel w0 ⟨(st.map (hk t i j cu es kT esT)).env.set d (.one (.aP t i j cu (es++bS) .lQ)),(st.map (hk t i j cu es kT esT)).boxes⟩ (a.put (some d) r) w1:=by
      intro w1 bd r j8 dj Ix k2 nn o' e4;have OQ:=QR n' j8 dj q5 o' xb;rw[QS Hi,QS xb]at OQ;exact⟨bd,τ,(aZ.VL j8 dj Ix k2 nn n'.2 OQ q5 o' o7).put (p:=.one (.aP t i j cu (es++bS) .lQ)) ⟨r,rfl,e4,fun bD=>by cases bD⟩⟩
     have Hc:∀c id,¬c<w.heap.size->ω c≠.box id:=fun c id ao e=>ao (aZ.owned.lt (by rw[e];simp))
     by_cases zq:bS.length=0
     ·have Ho:bS=[]:=yD zq;subst Ho;refine⟨fy,w,PZ bZ k5 w ?_ ?_,fin w ω fy (fun _ _ _=>rfl) (fun _ _=>rfl) Hc aZ.below aZ.owned aH (by rw[iz];exact aH)⟩
      ·cases aH with
       | nil _ _ a0=>exact⟨a0,0,0,rfl,gw _⟩
       | row R k es b off cap arr ty cT us ay dY ao ak ba hu aI=>exact⟨some ⟨b,off,none⟩,_,cap,rfl,ao⟩
      rcases mv.shape with⟨⟨a,h⟩,_⟩ | ⟨b,o,c,h,_⟩
      ·exact⟨a,0,h⟩
      exact⟨some ⟨b,o,none⟩,c,h⟩
     have sk:0<bS.length:=by omega
     rcases mv.shape with⟨_,h⟩ | ⟨bg,kj,kU,rfl,j7⟩
     ·rw[h]at sk;simp at sk
     have grown:∀(w1:World) (ci:Array Value) (r:Value) (lS:Nat),gA w.heap.size w w1->w1.heap[w.heap.size]?=some (.cells ci e (0,0))->r=.slice (some ⟨w.heap.size,0,none⟩) (es.length+bS.length) lS->
       es.length+bS.length<=lS->lS*cu<=ci.size->(∀fE ks d,c5 es fE ks=some d->∃u,ci[fE*cu+ks]?=some u/\b1 w ω (fun q o=>o=.tok t ((i,j)::(fE,ks)::q)) d u)->
       (∀x u,news[x]?=some u->ci[es.length*cu+x]?=some u)->(∀e∈es,e.length=cu)->
       Rel w0 ⟨(st.map (hk t i j cu es kT esT)).env.set d (.one (.aP t i j cu (es++bS) .lQ)),(st.map (hk t i j cu es kT esT)).boxes⟩ (a.put (some d) r) w1:=by
      intro w1 ci r lS k2 gF HJ gE dI hold C2 vn;subst HJ
      let bd:Own:=fun c=>if c=w.heap.size then .tok t [(i,j)] else ω c
      have dj:∀c,c<w.heap.size->bd c=ω c:=fun c ao=>by simp only[bd];rw[bH (by omega)]
      have oa:bd w.heap.size=.tok t [(i,j)]:=by simp[bd]
      refine fin w1 bd _ (fun c ao _=>k2.block c ao) dj (fun c id ao=>?_) (aZ.below.next k2) (fun b ay=>?_) (aH.frame fun c q ao aL=>⟨by rw[dj c ao];exact aL,k2.block c ao⟩) ?_
      ·simp only[bd];split
       ·simp
       exact Hc c id ao
      ·by_cases w':b=w.heap.size
       ·subst w';exact⟨.inl aZ.below.size,ci,e,gF⟩
       simp only[bd]at ay;rw[bH w']at ay;obtain⟨aB,ko,kD,aJ⟩:=aZ.owned b ay;exact⟨aB,ko,kD,(k2.block b (aZ.owned.lt ay)).trans aJ⟩
      have fo:∀x ks d,c5 (es++bS) x ks=some d->∃u,ci[x*cu+ks]?=some u/\b1 w1 bd (fun q o=>o=.tok t ((i,j)::(x,ks)::q)) d u:=by
       intro x ks d aI;rw[AG]at aI;split at aI
       ·obtain⟨u,U,aa⟩:=hold x ks d aI;exact⟨u,U,aa.frame fun c q ao aL=>⟨by rw[dj c ao];exact aL,k2.block c ao⟩⟩
       rename_i aq;obtain⟨u,U,rfl,aa⟩:=CU _ _ _ aI;refine⟨u,?_,.v _ _ aa⟩;rw[<-C2 _ u U]
       congr 1
       have:x=es.length+(x-es.length):=by omega
       rw[this,hq];simp only[Nat.add_sub_cancel_left];omega
      have hlen:(es++bS).length=es.length+bS.length:=lL;have p8:∀e∈es++bS,e.length=cu:=by
       intro e' he;rcases lM.1 he with h | h
       ·exact vn e' h
       exact mv.rows e' h
      have:=b1.row (w:=w1) (ω:=bd) (fun q o=>o=.tok t ((i,j)::q)) cu (es++bS) w.heap.size 0 lS ci e (0,0) (fun x j=>ci.getD (x*cu+j) undef) gF oa (by omega) (by omega) p8
       (fun x j d aI=>by obtain⟨u,U,_⟩:=fo x j d aI;rw[dW,U];simp[eR,U])
       (fun x j d aI=>by obtain⟨u,U,aa⟩:=fo x j d aI;have:ci.getD (x*cu+j) undef=u:=(by simp[eR,U]);rw[this];exact aa)
      rw[hlen]at this;exact this
     subst xm;have so:=aH;cases aH with
     | nil _ _ a0=>
      simp only[eh,dW]at gD hx;have fv:(Builtin.append_ #[hV,hV] ty #[.slice a0 0 0,.slice (some ⟨bg,kj,none⟩) bS.length kU]).run P w=
        .ok (.slice (some ⟨w.heap.size,0,none⟩) bS.length (grownCap w bS.length 0 e)) (w.drew.alloc (.cells (news.toArray++Builtin.zeroCells z.cells (grownCap w bS.length 0 e-bS.length)) e)):=by
       cases a0 with
       | none=>exact run_append_nil (P:=P) w hV ty e hz z bZ k5 bp ⟨bg,kj,none⟩ bS.length kU news mv.len j7 sk (by omega) (by omega)
       | some b6=>
        have:=run_append_grow (P:=P) w hV ty e hz z bZ k5 bp b6 0 0 [] (by simp) (fun j v bx=>by simp at bx) ⟨bg,kj,none⟩ bS.length kU news mv.len j7 (by omega) (by omega) (growslice_fits (by omega) (by simpa using gD));simpa using this
      have o6:=grownCap_ge w bS.length 0 e;exact⟨_,_,fv,grown _ (news.toArray++Builtin.zeroCells z.cells (grownCap w bS.length 0 e-bS.length)) (.slice (some ⟨w.heap.size,0,none⟩) bS.length (grownCap w bS.length 0 e)) (grownCap w bS.length 0 e)
       (((gA.refl _ _).drew).alloc (gw _) _) (nu _ _) (by simp) (by simpa using o6) (by
        simp only[th,oL,size_zeroCells,mv.len,pd,<-hq];exact hN _ (by omega))
       (fun fE j d aI=>by simp[c5]at aI) (fun x u aq=>by
        simp only[eh,Nat.zero_mul,dW];rw[jE,bL (by have:=(fP.1 aq).1;simpa using this)];simpa using aq) (fun e he=>by cases he)⟩
     | row R k es b off cap arr iw cT us ay dY ao ak hc hu aI=>
      have k1:ω b=.tok t [(i,j)]:=dY;obtain⟨vl,tn,uQ,hR⟩:=aZ.owned b (by rw[k1];simp);rw[ay]at hR;simp only[aW,Obj.cells.injEq]at hR;obtain⟨rfl,rfl,rfl⟩:=hR;have vf:b<w.heap.size:=(jF.1 ay).1;by_cases n9:es.length+bS.length<=cap
      ·have hmul:(es.length+bS.length)*hz.size<=cap*hz.size:=hN _ n9;rw[hq]at hmul;have vk:=mv.len;have ee:off+es.length*hz.size+news.length<=arr.size:=by omega
       have fv:=DF (P:=P) (ty:=ty) bZ k5 w b off es.length cap arr iw ay ⟨bg,kj,none⟩ bS.length kU news mv.len j7 mv.one n9 ee;generalize o3:(arr.toList.take (off+es.length*hz.size)++news++arr.toList.drop (off+es.length*hz.size+news.length)).toArray=ci at fv;have iH:∀x:Nat,ci[x]?=if off+es.length*hz.size<=x/\x<off+es.length*hz.size+news.length then news[x-(off+es.length*hz.size)]? else arr[x]?:=by
        intro x;rw[<-o3,oK,zZ (by simpa using ee)];simp
       have xn:ci.size=arr.size:=by rw[<-o3];simp;omega
       have k4:=setRow_heap w b arr ci iw (0,0) ay;have j8:∀c,c<w.heap.size->ω c≠.tok t [(i,j)]->(w.setRow b ci).heap[c]?=w.heap[c]?:=fun c _ ao=>setRow_other w b c ci fun e=>ao (by rw[e];exact k1)
       have nm:∀gL gM d u,b1 w ω (fun q o=>o=.tok t ((i,j)::(gL,gM)::q)) d u->b1 (w.setRow b ci) ω (fun q o=>o=.tok t ((i,j)::(gL,gM)::q)) d u:=by
        intro gL gM d u pV;refine pV.frame fun c q ao eV=>⟨eV,j8 c ao fun e=>?_⟩
        rw[e]at eV;simp at eV
       refine⟨_,_,fv,fin (w.setRow b ci) ω _ j8 (fun _ _=>rfl) Hc (aZ.below.setRow vl ci) (fun c ji=>?_) (b1.VC so ay k4 xn (fun x aq=>by rw[iH,bH (by omega)]) (fun o e bc=>by rw[<-e];exact bc) (fun c p q ao aL=>⟨aL,j8 c ao fun e=>by rw[e]at aL;simp at aL⟩)) ?_⟩
       ·obtain⟨aB,ko,kD,aJ⟩:=aZ.owned c ji;by_cases ze:c=b
        ·subst ze;exact⟨aB,ci,iw,k4⟩
        exact⟨aB,ko,kD,(setRow_other w b c ci ze).trans aJ⟩
       have fo:∀x ks d,c5 (es++bS) x ks=some d->∃u,ci[off+x*hz.size+ks]?=some u/\b1 (w.setRow b ci) ω (fun q o=>o=.tok t ((i,j)::(x,ks)::q)) d u:=by
        intro x ks d ec;rw[AG]at ec;split at ec
        ·rename_i aq;have zo:=(sS hc ec).2;refine⟨us x ks,?_,nm x ks d _ (aI x ks d ec)⟩;have:(x+1)*hz.size<=es.length*hz.size:=hN _ aq;rw[hq]at this;rw[iH,bH (by omega),hu x ks d ec]
        rename_i aq;obtain⟨u,U,rfl,aa⟩:=CU _ _ _ ec;have ZM:=(fP.1 U).1;have xo:x*hz.size=es.length*hz.size+(x-es.length)*hz.size:=by rw[<-hq];congr 1;omega
        refine⟨u,?_,.v _ _ aa⟩;rw[iH,bL (by omega),<-U]
        congr 1
        omega
       have hlen:(es++bS).length=es.length+bS.length:=lL;have p8:∀e∈es++bS,e.length=hz.size:=by
        intro e' he;rcases lM.1 he with h | h
        ·exact hc e' h
        exact mv.rows e' h
       have:=b1.row (w:=w.setRow b ci) (ω:=ω) (fun q o=>o=.tok t ((i,j)::q)) hz.size (es++bS) b off cap ci iw (0,0) (fun x j=>ci.getD (off+x*hz.size+j) undef) k4 k1 (by omega) (by omega) p8
        (fun x j d aI=>by obtain⟨u,U,_⟩:=fo x j d aI;rw[U];simp[eR,U])
        (fun x j d aI=>by obtain⟨u,U,aa⟩:=fo x j d aI;have:ci.getD (off+x*hz.size+j) undef=u:=(by simp[eR,U]);rw[this];exact aa)
       rw[hlen]at this;exact this
      have hmul:es.length*hz.size<=cap*hz.size:=hN _ ao;have q8:((arr.toList.drop off).take (es.length*hz.size)).length=es.length*hz.size:=by simp;omega
      have fv:=run_append_grow (P:=P) w hV ty e hz z bZ k5 bp ⟨b,off,none⟩ es.length cap ((arr.toList.drop off).take (es.length*hz.size)) q8 (fun j v bx=>by
       rw[ql,cell_of_row w b (off+j) arr iw (0,0) ay];rw[jZ]at bx;split at bx
       ·rw[kW]at bx;simpa using bx
       cases bx) ⟨bg,kj,none⟩ bS.length kU news mv.len j7 (by omega) (by omega) (growslice_fits (by omega) gD)
      have o6:=grownCap_ge w (es.length+bS.length) cap e;exact⟨_,_,fv,grown _ (((arr.toList.drop off).take (es.length*hz.size)).toArray++news.toArray++Builtin.zeroCells z.cells (grownCap w (es.length+bS.length) cap e-(es.length+bS.length))) _ (grownCap w (es.length+bS.length) cap e)
       (((gA.refl _ _).drew).alloc (gw _) _) (nu _ _) rfl o6 (by
        simp only[th,oL,size_zeroCells,mv.len,pd,q8,<-hq];exact hN _ (by omega))
       (fun fE j d ez=>by
        obtain⟨xf,ep⟩:=sS hc ez;have:(fE+1)*hz.size<=es.length*hz.size:=hN _ xf;rw[hq]at this;refine⟨us fE j,?_,aI fE j d ez⟩;rw[jE,bL (by simp only[th,oL,q8];omega),jE,bL (by simp only[oL,q8];omega)];rw[oK,jZ,bL (by omega),kW,<-hu fE j d ez];simp only[lJ]
        congr 1
        omega)
       (fun x u aq=>by
        have fR:=(fP.1 aq).1;rw[jE,bL (by simp only[th,oL,q8];omega),jE,bH (by simp only[oL,q8];omega)];simp only[oL,q8,oK];rw[<-aq]
        congr 1
        omega) hc⟩
    cases h
   cases h
  cases h
 cases h
theorem cD.XL{P:Program}{w0:eE}{st bu:aF}{a:Act}{w:World}{ω:Own}{τ:Nat->Nat×Value}{d:Nat}{hV ty:TypeId}{t j k:Nat}{es:List (List D)}{x y:Operand}{ans cm:List cd}{obs:List Prop}
  (aZ:cD w0 st a w ω τ) (hp:Sat w ω τ (.aP t i j k es .here) (a.eval x)) (h:Jv P st d hV t i j k es y ans=some (bu,cm,obs)) (bc:cK obs):
  ∃z aN,(Builtin.append_ #[hV,hV] ty #[a.eval x,a.eval y]).run P w=.ok z aN/\Rel w0 bu (a.put (some d) z) aN:=by
 unfold Jv at h;split at h
 ·rename_i e cu kT esT jf fl he Zo;split at h
  ·rename_i inf bS u2 xw hi iK;split at h
   ·rename_i z bp;split at h
    ·rename_i ao;simp only[aW,bA]at h;obtain⟨rfl,rfl,rfl⟩:=h;obtain⟨gD,hx,xb,Hi,HF⟩:=bc;obtain⟨o7,Zf⟩:=HF.append;refine aZ.tm (p:=.one (.aP t i j k (es++bS) .lQ)) (ans:=.el jf::fl) (cm:=u2) (esT:=esT) (kT:=kT) hp ?_ (obs:=((es.length+bS.length)*inf.bytes<=140737488355328)::(es.length+bS.length<=9223372036854775807)::(esT[i]?=some jf)::(jf[j]?=some (.J k es))::xw) ⟨gD,hx,xb,Hi,Zf⟩ (aZ.root Zo) (DH o7);unfold Sx.tm;simp only[he,hi,iK,bp];rw[bL ao]
    cases h
   cases h
  cases h
 cases h
