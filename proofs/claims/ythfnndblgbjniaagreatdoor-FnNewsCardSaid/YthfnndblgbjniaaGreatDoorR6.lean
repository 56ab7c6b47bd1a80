import Derived.Test.YthfnndblgbjniaaGreatDoorR1
set_option linter.unusedVariables false
set_option linter.unusedSimpArgs false
namespace Go.Sx
open Go.RowKit
def oV(id:Nat)(eW:List aC):List (Nat×List aC)->List (Nat×List aC)
 | []=>[]
 | (i,ls)::r=>if i=id then (i,eW)::r else (i,ls)::oV id eW r
variable{id:Nat}{eW:List aC}
theorem v8:∀{bs:List (Nat×List aC)} {ls:List aC},dh id bs=some ls->dh id (oV id eW bs)=some eW
 | [],_,h=>by cases h
 | (i,l)::r,ls,h=>by
  simp only[oV];by_cases hi:i=id
  ·simp_all[bU,dh]
  simp_all[bE,dh,v8]
theorem v'{hj:Nat}(a7:hj≠id):∀{bs:List (Nat×List aC)},dh hj (oV id eW bs)=dh hj bs
 | []=>rfl
 | (i,l)::r=>by
  simp only[oV];by_cases hi:i=id
  ·simp_all[bU,dh,bE,Ne.symm]
  simp_all[bE,dh,v']
theorem Tag.UU{t:Tag}{q:List (Nat×Nat)}:¬t.R q (.box id):=by
 cases t with
 | free=>exact fun h=>by cases h
 | own s=>exact fun h=>by cases h
 | ro s=>exact fun h=>by rcases h with h | ⟨_,h⟩<;>cases h
theorem Sat.aro{w:World}{ω:Own}{τ:Nat->Nat×Value}{b:Nat}(aw:ω b=.box id)(cs:Array Value):∀(l:aC) (v:Value),Sat w ω τ l v->Sat (w.setRow b cs) ω τ l v:=by
 have bj:kx w ω τ (w.setRow b cs) ω τ pR (fun _=>true):=by
  refine⟨?_,?_,fun _ _ _ h=>h,rfl,fun _ _=>rfl⟩
  ·intro t di de q ay _ aM;simp only[pR,aT]at ay;grind[setRow_other,Tag.UU]
  simp_all[pR,aT]
 intro l v aj;have:=bj.sat l v aj;cases l with
 | aL t i j k es m=>
  obtain⟨u,hu,U,hm⟩:=aj;refine⟨u,hu,U.frame fun c q ap aM=>⟨aM,setRow_other w b c cs fun e=>?_⟩,fun bH=>?_⟩
  ·grind
  obtain⟨kT,gj,off,len,cap,arr,ty,cF,aa,a8,aA,aO⟩:=hm bH;exact⟨kT,gj,off,len,cap,arr,ty,cF,aa,a8,(setRow_other w b gj cs fun e=>by grind).trans aA,aO⟩
 | eS t vs=>
  obtain⟨gj,ty,arr,e,a8,aA,a7,br⟩:=aj;refine⟨gj,ty,arr,e,a8,(setRow_other w b gj cs fun e=>by grind).trans aA,a7,fun j c ap=>?_⟩;obtain⟨u,U,aa⟩:=br j c ap;refine⟨u,U,?_⟩;have dZ:=bj.lb c u aa;have:eB.cB pR c=c:=by cases c<;>simp[eB.cB,pR]
  grind
 | _=>simp_all[aC.cB,pR]
variable{w0:dY}{st:aD}{a:Act}{w:World}{ω:Own}{τ:Nat->Nat×Value}
theorem cy.aru(h:cy w0 st a w ω τ){ls:List aC}(ay:dh id st.boxes=some ls)
  {b:Nat} (aw:ω b=.box id) {cc:Array Value} (aj:i' (Sat w ω τ) eW cc):
  cy w0 ⟨st.env,oV id eW st.boxes⟩ a (w.setRow b cc) ω τ:=by
 obtain⟨de,arr,ty,eE,hu,bH,ec⟩:=h.boxes id ls ay;have:=hu b aw;subst this;have FK:=Sat.aro (w:=w) (ω:=ω) (τ:=τ) aw cc;have jS:=setRow_heap w b arr cc ty (0,0) bH;refine⟨h.defers,h.size,?_,?_,h.fixed,h.pinned,?_,?_⟩
 ·exact h.below.setRow (h.owned b (by simp[aw])).1 cc
 ·intro c ap;obtain⟨U,ja,jk,aa⟩:=h.owned c ap;grind[setRow_other]
 ·intro i p hp;obtain⟨v,U,aa⟩:=h.env i p hp;refine⟨v,U,?_⟩;have:=cH.map (f:=_root_.id) FK aa;have e:aE.map _root_.id p=p:=by
   cases p with
   | az a=>cases a<;>simp[aE.map,bg.map]
   | ek as=>
    simp only[aE.map]
    congr 1
    have:bg.map _root_.id=_root_.id:=by funext a;cases a<;>simp[bg.map]
    simp_all
  grind
 intro i l au;by_cases e:i=id
 ·subst e;rw[v8 ay]at au;have e:=fB au;subst e;refine⟨b,cc,ty,aw,hu,jS,?_⟩;have:=aj.map (f:=_root_.id) FK;simp_all
 rw[v' e]at au;obtain⟨c,ja,jk,ap,VI,VE,nv⟩:=h.boxes i l au;have c1:c≠b:=fun e'=>by grind
 refine⟨c,ja,jk,ap,VI,(setRow_other w b c cc c1).trans VE,?_⟩;have:=nv.map (f:=_root_.id) FK;simp_all
abbrev Stepped:=Option (aD×List b'×List Prop)
def Hq(st:aD)(d:Nat)(p:aE)(ans:List b'):Stepped:=
 if d<cX then p.leaves.map fun ls=>(⟨(st.sn d ls).env.set d (.one (.ptr d 0)),(st.sn d ls).boxes⟩,ans,[]) else none
variable{bl:aD}{ans cf:List b'}{obs:List Prop}
theorem cy.box{P:Program}{d:Nat}{p:aE}{v:Value}(aW:cy w0 st a w ω τ)
  (hp:cH (Sat w ω τ) p v) (h:Hq st d p ans=some (bl,cf,obs)) (ty:TypeId):
  ∃z aP,(do pure (.pointer (some (<-newVar ty v))):Sem Value).run P w=.ok z aP/\Rel w0 bl (a.put (some d) z) aP:=by
 unfold Hq at h;split at h
 case isFalse=>cases h
 rename_i sb;rw[b0]at h;obtain⟨ls,U,h⟩:=h;simp only[bq]at h;obtain⟨rfl,_,_⟩:=h;obtain⟨aj,_⟩:=aE.vX U hp;obtain⟨a',FG,c8⟩:=aW.sn d sb ty aj;refine⟨.pointer (some ⟨w.heap.size,0,none⟩),w.alloc (.cells v.cells ty),by simp[newVar,newRow],a',τ,?_⟩;exact FG.put (p:=.one (.ptr d 0)) ⟨w.heap.size,c8,rfl⟩
def Hr(P:Program)(st:aD)(d:Nat)(elem:TypeId)(ans:List b'):Stepped:=
 match P.info? elem with
 | some i=>match i.zero with
  | some z=>if d<cX then let ls:=z.cells.toList.map .v;some (⟨(st.sn d ls).env.set d (.one (.ptr d 0)),(st.sn d ls).boxes⟩,ans,[]) else none
  | none=>none
 | none=>none
theorem cy.alloc{P:Program}{d:Nat}{elem:TypeId}(aW:cy w0 st a w ω τ)
  (h:Hr P st d elem ans=some (bl,cf,obs)):
  ∃z aP,(Instr.alloc elem true (.tuple #[])).run P w=.ok z aP/\Rel w0 bl (a.put (some d) z) aP:=by
 unfold Hr at h;split at h
 ·rename_i i hi;split at h
  ·rename_i z bk;split at h
   case isFalse=>cases h
   rename_i sb;simp only[aT,bq]at h;obtain⟨rfl,_,_⟩:=h;have aj:i' (Sat w ω τ) (z.cells.toList.map .v) z.cells:=by
    refine⟨by simp,fun j l au=>?_⟩;rw[dk,b0]at au;obtain⟨u,hu,rfl⟩:=au;exact⟨u,by grind,rfl⟩
   obtain⟨a',FG,c8⟩:=aW.sn d sb elem aj;refine⟨.pointer (some ⟨w.heap.size,0,none⟩),w.alloc (.cells z.cells elem),by simp_all[Instr.alloc,zeroValue,typeInfo,newVar,newRow],a',τ,?_⟩;exact FG.put (p:=.one (.ptr d 0)) ⟨w.heap.size,c8,rfl⟩
  cases h
 cases h
def Hs(P:Program)(st:aD)(t:TypeId)(id off:Nat)(q:aE)(ans:List b'):Stepped:=
 match dh id st.boxes,q.leaves,P.info? t with
 | some ls,some xs,some i=>if xs.length=i.size/\off+xs.length<=ls.length then some (⟨st.env,oV id (r2 ls off xs) st.boxes⟩,ans,[]) else none
 | _,_,_=>none
theorem yA{α:Type}{xs ys:List α}{off:Nat}(h:off+ys.length<=xs.length)(i:Nat):
  (xs.take off++ys++xs.drop (off+ys.length))[i]?=if off<=i/\i<off+ys.length then ys[i-off]? else xs[i]?:=by
 rw[rR,n5,qm,Nat.min_eq_left (by omega)];grind
theorem cy.art{P:Program}{t:TypeId}{off:Nat}{q:aE}{b:Nat}{v:Value}
  (aW:cy w0 st a w ω τ) (aw:ω b=.box id) (aM:cH (Sat w ω τ) q v) (h:Hs P st t id off q ans=some (bl,cf,obs)):
  ∃aP,(Instr.storeAt t (.pointer (some ⟨b,off,none⟩)) v).run P w=.ok () aP/\Rel w0 bl a aP:=by
 unfold Hs at h;split at h
 ·rename_i ls xs i e1 e2 ch;split at h
  ·rename_i ap;simp only[aT,bq]at h;obtain⟨rfl,_,_⟩:=h;obtain⟨aj,oB⟩:=aE.vX e2 aM;obtain⟨de,arr,ty,eE,hu,bH,ec⟩:=aW.boxes id ls e1;have:=hu b aw;subst this;have e5:=run_storeCells_at P b off ty v.cells.toList 0 arr w bH (by simp;have:=aj.1;have:=ec.1;omega) oB;have fN:i' (Sat w ω τ) (r2 ls off xs) (arr.toList.take (off+0)++v.cells.toList++arr.toList.drop (off+0+v.cells.toList.length)).toArray:=by
    have U:=aj.1;have aa:=ec.1;refine⟨?_,fun j l au=>?_⟩
    ·grind[He]
    rw[Oc (by omega)]at au;rw[qk,mX,yA (by simp;omega)];simp only[LJ];by_cases bm:off<=j/\j<off+xs.length
    ·rw[bU bm]at au;rw[bU (by omega)];obtain⟨u,aA,aO⟩:=aj.2 _ _ au;grind
    rw[bE bm]at au;rw[bE (by omega)];obtain⟨u,aA,aO⟩:=ec.2 _ _ au;grind
   refine⟨_,?_,ω,τ,aW.aru e1 aw fN⟩;simp only[Instr.storeAt,Instr.sureAddr,Sem.run_bind,Sem.run_pure,Result.andThen_ok,storeVar,sizeOf,typeInfo,run_program,ch];have eL:¬(v.cells.size≠i.size):=by simp;have:=aj.1;omega
   grind
  cases h
 cases h
end Go.Sx
namespace Go.Sx
open Go.RowKit
variable{w0:dY}{st:aD}{a:Act}{w:World}{ω:Own}{τ:Nat->Nat×Value}
theorem cy.eo{aP:World}{a':Own}{cL:Nat->Nat×Value}(h:cy w0 st a w ω τ)(f:aC->aC)
  (ec:∀l v,Sat w ω τ l v->Sat aP a' cL (f l) v) (pG:fX w0 aP) (oC:mc w0 aP a')
  (qK:∀id b,ω b=.box id->a' b=.box id/\aP.heap[b]?=w.heap[b]?) (xG:∀id b,a' b=.box id->ω b=.box id) (se:∀t,cX<=t->cL t=τ t:=by intros;rfl):cy w0 (st.map f) a aP a' cL where
 defers:=h.defers
 size:=by simp[aD.map,h.size]
 below:=pG
 owned:=oC
 fixed:=fun t bZ=>(se t bZ).trans (h.fixed t bZ)
 pinned:=fun id b hi aw=>h.pinned id b hi (xG id b aw)
 env:=by
  intro i q aM;simp only[aD.map]at aM;rw[dk,b0]at aM;obtain⟨gJ,bV,rfl⟩:=aM;obtain⟨v,U,aa⟩:=h.env i gJ bV;exact⟨v,U,cH.map ec aa⟩
 boxes:=by
  intro id ls au;simp only[aD.map]at au;rw[re,b0]at au;obtain⟨h3,bV,rfl⟩:=au;obtain⟨b,arr,ty,aw,hu,bH,aj⟩:=h.boxes id h3 bV;obtain⟨U,aa⟩:=qK id b aw;exact⟨b,arr,ty,U,fun de eE=>hu de (xG id de eE),aa.trans bH,aj.map ec⟩
abbrev gH:=List (Nat×(Nat×Nat))
def gH.at(s:Nat):gH->Option (Nat×Nat)
 | []=>none
 | (i,p)::r=>if i=s then some p else gH.at s r
def hk(t:Nat)(ms:gH):Tag->Option Tag
 | .free=>some .free
 | .own s=>if s=t then some .free else if (ms.at s).isSome then none else some (.own s)
 | .ro s=>if s=t then some .free else if (ms.at s).isSome then none else some (.ro s)
def nR(t:Nat)(ms:gH):c4->c4
 | .tok s q=>if s=t then .bz else match ms.at s with | some p=>.tok t (p::q) | none=>.tok s q
 | o=>o
variable{t:Nat}{ms:gH}
theorem BR{o:c4}{id:Nat}:nR t ms o=.box id<->o=.box id:=by
 cases o with
 | bz=>simp[nR]
 | box i=>simp[nR]
 | tok s q=>
  simp only[nR];split
  ·simp
  ·split<;>simp
theorem Og{g dS:Tag}{q:List (Nat×Nat)}{o:c4}(h:hk t ms g=some dS)(aI:g.R q o):dS.R q (nR t ms o):=by
 cases g with
 | free=>simp only[hk,aT]at h;subst h;simp only[Tag.R]at aI ⊢;rw[aI];rfl
 | own s=>
  simp only[Tag.R]at aI;subst aI;simp only[hk]at h;simp only[nR];split at h
  ·simp only[aT]at h;subst h;rw[bU ‹_›];rfl
  split at h
  ·cases h
  rename_i U aa;simp only[aT]at h;subst h;rw[bE U];cases e:ms.at s with
  | none=>rfl
  | some p=>simp[e]at aa
 | ro s=>
  simp only[Tag.R]at aI;simp only[hk]at h;split at h
  ·simp only[aT]at h;subst h;rcases aI with rfl | ⟨dB,rfl⟩
   ·rfl
   simp only[nR];rw[bU ‹_›];rfl
  split at h
  ·cases h
  rename_i U aa;simp only[aT]at h;subst h;rcases aI with rfl | ⟨dB,rfl⟩
  ·exact .inl rfl
  refine .inr ⟨dB,?_⟩;simp only[nR];rw[bE U];cases e:ms.at s with
  | none=>rfl
  | some p=>simp[e]at aa
def nS(w:World)(ω:Own)(t:Nat)(ms:gH):Own:=fun b=>if b=w.heap.size then .tok t [] else nR t ms (ω b)
def uG(w:World)(τ:Nat->Nat×Value)(t k n c:Nat):Nat->Nat×Value:=fun s=>if s=t then (k,.slice (some ⟨w.heap.size,0,none⟩) n c) else τ s
def aD.h5(st:aD)(t:Nat)(ms:gH):aD:=st.map (aC.cB (hk t ms) fun _=>true)
theorem aiX{w1:World}{k n c:Nat}(hO:t<cX)(b7:ω w.heap.size=.bz)(bH:∀b,b<w.heap.size->w1.heap[b]?=w.heap[b]?):
  kx w ω τ w1 (nS w ω t ms) (uG w τ t k n c) (hk t ms) (fun _=>true):=by
 refine⟨?_,?_,?_,rfl,fun s aj=>by simp only[uG];rw[bE (by omega)]⟩
 ·intro g dS b q ay aw aM;refine⟨?_,bH b aw⟩;simp only[nS];rw[bE (by omega)];exact Og ay aM
 ·intro g dS y ay bO;cases g with
  | free=>simp only[hk,aT]at ay;subst ay;exact trivial
  | own s=>
   simp only[hk]at ay;split at ay
   ·simp only[aT]at ay;subst ay;exact trivial
   split at ay
   ·cases ay
   simp only[aT]at ay;subst ay;simp only[Tag.dG,uG]at bO ⊢;rw[bE ‹_›];exact bO
  | ro s=>
   simp only[hk]at ay;split at ay
   ·simp only[aT]at ay;subst ay;exact trivial
   split at ay
   ·cases ay
   simp only[aT]at ay;subst ay;exact trivial
 intro id b _ aw;simp only[nS];by_cases e:b=w.heap.size
 ·subst e;rw[b7]at aw;cases aw
 rw[bE e,aw];rfl
def aC.hE:aC->Option D
 | .v x=>if x.oneCell' then some (.v x) else none
 | .a1 c=>some (.v (.bool c))
 | .J (.own _) k es=>some (.J k es)
 | _=>none
def aC.tok:aC->Option Nat
 | .J (.own s) _ _=>some s
 | _=>none
def BS(w:World)(ω:Own)(τ:Nat->Nat×Value)(t:Nat)(ms:gH)(i j:Nat)(d:D)(u:Value):Prop:=
 ∃l:aC,l.hE=some d/\Sat w ω τ l u/\∀s,l.tok=some s->s≠t/\ms.at s=some (i,j)
theorem BS.rep{w1:World}{i j:Nat}{d:D}{u:Value}(h:BS w ω τ t ms i j d u)(bH:∀b,b<w.heap.size->w1.heap[b]?=w.heap[b]?):
  bS w1 (nS w ω t ms) (fun q=>(Tag.own t).R ((i,j)::q)) d u:=by
 obtain⟨l,aF,aj,hm⟩:=h;cases l with
 | cp=>cases aF
 | v x=>
  simp only[aC.hE]at aF;split at aF
  ·simp only[aT]at aF;subst aF;have:u=x:=aj;subst this;exact .v _ _ ‹_›
  cases aF
 | a1 c=>
  simp only[aC.hE,aT]at aF;subst aF;have:u=.bool c:=aj;subst this;exact .v _ _ rfl
 | J g k es=>
  cases g with
  | free=>cases aF
  | ro s=>cases aF
  | own s=>
   simp only[aC.hE,aT]at aF;subst aF;obtain⟨c1,pF⟩:=hm s rfl;refine aj.1.frame fun b q aw aM=>⟨?_,bH b aw⟩
   simp only[Tag.R]at aM ⊢;simp only[nS];rw[bE (by omega),aM];simp only[nR];rw[bE c1,pF]
 | ptr id off=>cases aF
 | cU g k es i j=>cases aF
 | gZ=>cases aF
 | fd=>cases aF
 | c9=>cases aF
 | fK=>cases aF
 | aL=>cases aF
 | eS=>cases aF
theorem cy.h5{w1:World}(h:cy w0 st a w ω τ)(t:Nat)(hO:t<cX)(ms:gH){k cap:Nat}{es:List (List D)}{arr:Array Value}{ty:TypeId}
  (aw:fC w.heap.size w w1) (fN:w1.heap[w.heap.size]?=some (.cells arr ty (0,0))) (ap:es.length<=cap) (eL:cap*k<=arr.size) (bc:∀e∈es,e.length=k)
  (eI:∀i j d,cN es i j=some d->∃u,arr[i*k+j]?=some u/\BS w ω τ t ms i j d u):
  cy w0 (st.h5 t ms) a w1 (nS w ω t ms) (uG w τ t k es.length cap)/\
  Sat w1 (nS w ω t ms) (uG w τ t k es.length cap) (.J (.own t) k es) (.slice (some ⟨w.heap.size,0,none⟩) es.length cap):=by
 have b7:ω w.heap.size=.bz:=h.owned.fresh (ht _);have lJ:=aw.block;have as9:w.heap.size<w1.heap.size:=(iV.1 fN).1;have mv:nS w ω t ms w.heap.size=.tok t []:=by simp[nS]
 have hN:∀b,b≠w.heap.size->nS w ω t ms b=nR t ms (ω b):=fun b aw=>by simp[nS,aw]
 refine⟨h.eo _ (aiX hO b7 lJ).sat ?_ ?_ ?_ ?_ (fun s aj=>by simp only[uG];rw[bE (by omega)]),?_,?_⟩
 ·exact h.below.next aw
 ·intro b fq;by_cases e:b=w.heap.size
  ·subst e;exact⟨.inl h.below.size,arr,ty,fN⟩
  rw[hN b e]at fq;have aa:ω b≠.bz:=fun e'=>by rw[e']at fq;exact fq rfl
  obtain⟨aA,ja,jk,aO⟩:=h.owned b aa;exact⟨aA,ja,jk,(lJ b (h.owned.lt aa)).trans aO⟩
 ·intro id b fq;have bM:=h.owned.lt (b:=b) (by simp[fq]);rw[hN b (by omega),fq];exact⟨rfl,lJ b bM⟩
 ·intro id b fq;by_cases e:b=w.heap.size
  ·subst e;rw[mv]at fq;cases fq
  rw[hN b e]at fq;exact BR.1 fq
 ·have tS:∀i j d,cN es i j=some d->arr[0+i*k+j]?=some (arr.getD (i*k+j) undef)/\BS w ω τ t ms i j d (arr.getD (i*k+j) undef):=by
   intro i j d aF;obtain⟨u,U,aa⟩:=eI i j d aF;have e:arr.getD (i*k+j) undef=u:=by simp[eg,U]
   rw[e];exact⟨by rw[dL];exact U,aa⟩
  exact .row _ k es w.heap.size 0 cap arr ty (0,0) (fun i j=>arr.getD (i*k+j) undef) fN mv ap (by omega) bc (fun i j d aF=>(tS i j d aF).1) (fun i j d aF=>(tS i j d aF).2.rep lJ)
 simp[Tag.dG,uG]
def BU(P:Program)(st:aD)(d:Nat)(t:TypeId)(p q:aE)(ans:List b'):Stepped:=
 match P.underlying t with
 | some (.slice e)=>
  match P.info? e,p.int,q.int with
  | some i,some (_,l),some (_,c)=>
   match i.zero with
   | some z=>
    if i.size=z.cells.size/\0<i.size/\z.cells.all (·.oneCell')=true/\d<cX then
     some (⟨(st.h5 d []).env.set d (.one (.J (.own d) i.size (List.replicate l.toNat (z.cells.toList.map .v)))),(st.h5 d []).boxes⟩,ans,[0<=l,l<=c,(i.bytes:Int)*c<=281474976710656,c<=9223372036854775807])
    else none
   | none=>none
  | _,_,_=>none
 | _=>none
theorem Oh(z:Array Value)(n i j:Nat)(hi:i<n)(bm:j<z.size):(madeCells z (n*z.size))[i*z.size+j]?=z[j]?:=by
 have bM:i*z.size+j<n*z.size:=by
  have:(i+1)*z.size<=n*z.size:=gN _ hi;rw[gx]at this;omega
 have e:(i*z.size+j) % z.size=j:=by rw[Nat.add_comm,Nat.add_mul_mod_self_right];exact Ap bm
 simp[madeCells,bM,e,getElem!_pos,bm]
theorem aiY{n:Nat}{e:List D}{i j:Nat}{d:D}(h:cN (List.replicate n e) i j=some d):i<n/\e[j]?=some d:=by
 unfold cN at h;rw[Ak]at h;split at h
 ·exact⟨‹_›,h⟩
 simp at h
theorem cy.make{P:Program}{bl:aD}{d:Nat}{t:TypeId}{p q:aE}{u v:Value}{ans cf:List b'}{obs:List Prop}
  (aW:cy w0 st a w ω τ) (hp:cH (Sat w ω τ) p u) (aM:cH (Sat w ω τ) q v) (h:BU P st d t p q ans=some (bl,cf,obs)) (a6:cv obs):
  ∃z aP,(Instr.makeSlice t u v).run P w=.ok z aP/\Rel w0 bl (a.put (some d) z) aP:=by
 unfold BU at h;split at h
 ·rename_i e hu;split at h
  ·rename_i i c6 l b8 c hi e1 e2;split at h
   ·rename_i z bk;split at h
    ·rename_i ap;obtain⟨kB,kf,jR,qM⟩:=ap;simp only[aT,bq]at h;obtain⟨rfl,_,rfl⟩:=h;obtain⟨cx,cd,cD,eX,_⟩:=a6;rw[aE.mw e1 hp,aE.mw e2 aM];have fO:=run_make (P:=P) w t e i z hu hi bk c6 b8 l c cx cd cD eX;have fN:(w.alloc (.cells (madeCells z.cells (c.toNat*i.size)) e)).heap[w.heap.size]?=some (.cells (madeCells z.cells (c.toNat*i.size)) e (0,0)):=p6;have eL:(madeCells z.cells (c.toNat*i.size)).size=c.toNat*i.size:=by simp[madeCells]
     have tF:=aW.h5 d qM [] (k:=i.size) (cap:=c.toNat) (es:=List.replicate l.toNat (z.cells.toList.map .v)) (w1:=w.alloc (.cells (madeCells z.cells (c.toNat*i.size)) e))
      ((fC.refl _ _).alloc (ht _) _) fN (by simp;omega) (by omega) (fun e' he=>by rw[List.eq_of_mem_replicate he];simp[kB]) (fun x j qB aF=>by
       obtain⟨ao,aF⟩:=aiY aF;rw[dk,b0]at aF;obtain⟨rM,il,rfl⟩:=aF;have bm:j<z.cells.size:=by
        have:=(fA.1 il).1;simpa using this
       refine⟨rM,?_,.v rM,?_,rfl,fun s aj=>by cases aj⟩
       ·rw[kB,Oh z.cells c.toNat x j (by omega) bm];simpa using il
       have:rM.oneCell'=true:=by
        have U:=Array.all_eq_true'.1 jR;exact U rM (by simpa using fe il)
       simp[aC.hE,this])
     simp only[List.length_replicate]at tF;exact⟨_,_,fO,_,_,tF.1.put (p:=.one (.J (.own d) i.size (List.replicate l.toNat (z.cells.toList.map .v)))) tF.2⟩
    cases h
   cases h
  cases h
 cases h
end Go.Sx
namespace Go.Sx
open Go.RowKit
def l3(k:Nat):Nat->List aC->List (List aC)
 | 0,_=>[]
 | n+1,ls=>ls.take k::l3 k n (ls.drop k)
theorem Ht(k:Nat):∀(n:Nat) (ls:List aC) (i:Nat),(l3 k n ls)[i]?=if i<n then some ((ls.drop (i*k)).take k) else none
 | 0,ls,i=>by simp[l3]
 | n+1,ls,0=>by simp[l3]
 | n+1,ls,i+1=>by
  simp only[l3,n7,Ht k n];by_cases h:i<n
  ·rw[bU h,bU (by omega),List.drop_drop]
   congr 3
   rw[gx];omega
  rw[bE h,bE (by omega)]
theorem Oi(k:Nat):∀(n:Nat) (ls:List aC),(l3 k n ls).length=n
 | 0,_=>rfl
 | n+1,ls=>by simp[l3,Oi k n]
def jW(i:Nat):Nat->List aC->gH
 | _,[]=>[]
 | j,l::ls=>match l.tok with
  | some s=>(s,(i,j))::jW i (j+1) ls
  | none=>jW i (j+1) ls
def p8:Nat->List (List aC)->gH
 | _,[]=>[]
 | i,e::es=>jW i 0 e++p8 (i+1) es
def wa(t:Nat)(ms:gH):Bool:=decide (t<cX)&&ms.all fun x=>x.1≠t&&(match ms.at x.1 with | some p=>p.1==x.2.1&&p.2==x.2.2 | none=>false)
theorem Hu(i:Nat):∀(ls:List aC) (j0 j:Nat) (l:aC) (s:Nat),ls[j]?=some l->l.tok=some s->(s,(i,j0+j))∈jW i j0 ls
 | [],_,_,_,_,h,_=>by simp at h
 | fk::ls,j0,0,l,s,h,aj=>by
  simp at h;subst h;simp only[jW,aj];exact jn
 | fk::ls,j0,j+1,l,s,h,aj=>by
  have:=Hu i ls (j0+1) j l s (by simpa using h) aj;rw[show j0+1+j=j0+(j+1) by omega]at this;simp only[jW];split
  ·exact hb _ this
  exact this
theorem Oj:∀(es:List (List aC)) (i0 i j:Nat) (e:List aC) (l:aC) (s:Nat),es[i]?=some e->e[j]?=some l->l.tok=some s->(s,(i0+i,j))∈p8 i0 es
 | [],_,_,_,_,_,_,h,_,_=>by simp at h
 | bD::es,i0,0,j,e,l,s,h,au,aj=>by
  simp at h;subst h;simp only[p8];have:=Hu i0 bD 0 j l s au aj;rw[dL]at this;exact hG _ this
 | bD::es,i0,i+1,j,e,l,s,h,au,aj=>by
  have:=Oj es (i0+1) i j e l s (by simpa using h) au aj;rw[show i0+1+i=i0+(i+1) by omega]at this;simp only[p8];exact ig _ this
variable{ms:gH}
theorem aiZ{t:Nat}(h:wa t ms=true):t<cX:=by
 unfold wa at h;rw[cJ,cW]at h;exact h.1
theorem ai0{t:Nat}(h:wa t ms=true){s:Nat}{p:Nat×Nat}(hm:(s,p)∈ms):s≠t/\ms.at s=some p:=by
 unfold wa at h;rw[cJ]at h;have:=fp.1 h.2 _ hm;simp only[cJ,cW]at this;refine⟨this.1,?_⟩;have aa:=this.2;split at aa
 ·rename_i oR e;simp only[cJ,jl]at aa;rw[e]
  congr 1
  exact Prod.ext aa.1 aa.2
 cases aa
def yB(P:Program)(st:aD)(d:Nat)(t:TypeId)(len:Nat)(parts:List (Nat×Operand))(ans:List b'):Stepped:=
 match P.underlying t with
 | some (.slice e)=>
  match P.info? e with
  | some i=>
   match i.zero with
   | some z=>
    if i.size=z.cells.size/\0<i.size/\len*i.size<=16777216 then
     match pD (fun x=>some (x*i.size,i.size)) ((List.replicate len (z.cells.toList.map aC.v)).flatten) (parts.map fun x=>(x.1,st.bj x.2)) with
     | some r=>
      let ls:=l3 i.size len r
      match ls.mapM (fun x=>x.mapM aC.hE) with
      | some es=>if wa d (p8 0 ls) then
        some (⟨(st.h5 d (p8 0 ls)).env.set d (.one (.J (.own d) i.size es)),(st.h5 d (p8 0 ls)).boxes⟩,ans,[]) else none
      | none=>none
     | none=>none
    else none
   | none=>none
  | none=>none
 | _=>none
def AF(P:Program)(st:aD)(d:Nat)(t:TypeId)(len:Nat)(parts:List (Nat×Operand)):Option (Nat×List (List D)×gH):=
 match P.underlying t with
 | some (.slice e)=>
  match P.info? e with
  | some i=>
   match i.zero with
   | some z=>
    if i.size=z.cells.size/\0<i.size/\len*i.size<=16777216 then
     match pD (fun x=>some (x*i.size,i.size)) ((List.replicate len (z.cells.toList.map aC.v)).flatten) (parts.map fun x=>(x.1,st.bj x.2)) with
     | some r=>
      match (l3 i.size len r).mapM (fun x=>x.mapM aC.hE) with
      | some es=>if wa d (p8 0 (l3 i.size len r)) then some (i.size,es,p8 0 (l3 i.size len r)) else none
      | none=>none
     | none=>none
    else none
   | none=>none
  | none=>none
 | _=>none
theorem ai1{P:Program}{st:aD}{d:Nat}{t:TypeId}{len:Nat}{parts:List (Nat×Operand)}{k:Nat}{es:List (List D)}(h:AF P st d t len parts=some (k,es,ms))(ans:List b'):
  yB P st d t len parts ans=some (⟨(st.h5 d ms).env.set d (.one (.J (.own d) k es)),(st.h5 d ms).boxes⟩,ans,[]):=by
 unfold AF at h;unfold yB;split at h
 ·rename_i e U
  try rw[U]
  split at h
  ·rename_i i aa
   try simp only[aa]
   split at h
   ·rename_i z aA
    try simp only[aA]
    split at h
    ·rename_i ap
     try rw[bU ap]
     split at h
     ·rename_i r aO
      try simp only[aO]
      split at h
      ·rename_i cq a8
       try simp only[a8]
       split at h
       ·rename_i bG;simp only[aT,bq]at h;obtain⟨rfl,rfl,rfl⟩:=h
        try rw[bU bG]
       cases h
      cases h
     cases h
    cases h
   cases h
  cases h
 cases h
theorem lU{α β:Type}{f:α->Option β}:∀{xs:List α} {ys:List β},xs.mapM f=some ys->ys.length=xs.length/\∀(i:Nat) (y:β),ys[i]?=some y->∃x,xs[i]?=some x/\f x=some y
 | [],ys,h=>by simp at h;subst h;exact⟨rfl,fun i y bO=>by simp at bO⟩
 | x::xs,ys,h=>by
  rw[xa]at h;cases e:f x with
  | none=>simp[e]at h
  | some Dr=>
   cases e2:xs.mapM f with
   | none=>simp[e,e2]at h
   | some D2=>
    simp[e,e2]at h;subst h;obtain⟨U,aa⟩:=lU e2;refine⟨by simp[U],fun i y bO=>?_⟩;cases i with
    | zero=>simp at bO;subst bO;exact⟨x,rfl,e⟩
    | succ i=>exact aa i y (by simpa using bO)
theorem Ok{α:Type}(e:List α):∀(n i j:Nat),i<n->j<e.length->((List.replicate n e).flatten)[i*e.length+j]?=e[j]?
 | 0,i,j,hi,_=>by omega
 | n+1,0,j,_,bm=>by
  rw[List.replicate_succ,List.flatten_cons,n5,Nat.zero_mul,dL,bU bm]
 | n+1,i+1,j,hi,bm=>by
  rw[List.replicate_succ,List.flatten_cons,n5,bE (by rw[gx];omega)];have:=Ok e n i j (by omega) bm;rw[<-this]
  congr 1
  rw[gx];omega
theorem cy.buildSlice{P:Program}{w0:dY}{st bl:aD}{a:Act}{w:World}{ω:Own}{τ:Nat->Nat×Value}{d:Nat}{t:TypeId}{len:Nat}{parts:Array (Nat×Operand)}{ans cf:List b'}{obs:List Prop}
  (aW:cy w0 st a w ω τ) (h:yB P st d t len parts.toList ans=some (bl,cf,obs)):
  ∃z aP,(Instr.buildSlice t len (parts.map fun (i,x)=>(i,a.eval x))).run P w=.ok z aP/\Rel w0 bl (a.put (some d) z) aP:=by
 unfold yB at h;split at h
 ·rename_i e hu;split at h
  ·rename_i i hi;split at h
   ·rename_i z bk;split at h
    ·rename_i ap;obtain⟨kB,kf,jR⟩:=ap;split at h
     ·rename_i r aI;simp only at h;split at h
      ·rename_i es tL;split at h
       ·rename_i MC;simp only[aT,bq]at h;obtain⟨rfl,_,_⟩:=h;have kH:(z.cells.toList.map aC.v).length=i.size:=by simp[kB]
        have asV:((List.replicate len (z.cells.toList.map aC.v)).flatten).length=len*i.size:=by simp[kB]
        have Bl:i' (Sat w ω τ) ((List.replicate len (z.cells.toList.map aC.v)).flatten) (madeCells z.cells (len*i.size)):=by
         refine⟨by simp[madeCells,kB],fun x l au=>?_⟩;have bM:x<len*i.size:=by
          have:=(fA.1 au).1;omega
         have ao:x=(x / i.size)*i.size+x % i.size:=by rw[Nat.mul_comm];exact (Nat.div_add_mod x i.size).symm
         have aM:x / i.size<len:=Nat.div_lt_of_lt_mul (by rw[Nat.mul_comm];exact bM);have hm:x % i.size<i.size:=Nat.mod_lt _ kf;have U:=Ok (z.cells.toList.map aC.v) len (x / i.size) (x % i.size) aM (by omega);rw[kH,<-ao,au]at U;have aa:=U.symm;rw[dk,b0]at aa;obtain⟨u,il,rfl⟩:=aa;refine⟨u,?_,rfl⟩;have aA:=Oh z.cells len (x / i.size) (x % i.size) aM (by omega);rw[<-kB,<-ao]at aA;rw[aA];simpa using il
        obtain⟨out,FF,Bc⟩:=Hf (vals:=parts.toList.map fun x=>(x.1,a.eval x.2)) (by simp) (fun j fj p bm=>by
         rw[dk,b0]at bm;obtain⟨⟨i2,x⟩,ao,e⟩:=bm;simp only[bq]at e;obtain⟨rfl,rfl⟩:=e;exact⟨a.eval x,by simp only[dk,ao,rP],aW.bj x⟩) aI Bl
        obtain⟨nA,c2⟩:=lU tL;have hlen:es.length=len:=by rw[nA,Oi]
        have VD:∀x j qB,cN es x j=some qB->∃l,x<len/\j<i.size/\r[x*i.size+j]?=some l/\l.hE=some qB/\∃tB,(l3 i.size len r)[x]?=some tB/\tB[j]?=some l:=by
         intro x j qB aF;unfold cN at aF;cases ao:es[x]? with
         | none=>simp[ao]at aF
         | some e'=>
          rw[ao,l8]at aF;obtain⟨tB,U,aa⟩:=c2 x e' ao;obtain⟨aA,aO⟩:=lU aa;obtain⟨l,a8,bG⟩:=aO j qB aF;have Vo:=U;rw[Ht]at U;split at U
          ·simp only[aT]at U;subst U;have Vq:=a8;rw[pk]at a8;split at a8
           ·rw[th]at a8;exact⟨l,‹_›,‹_›,a8,bG,_,Vo,Vq⟩
           cases a8
          cases U
        have MP:r.length=len*i.size:=by
         have:=Bc.1;have aa:out.size=(madeCells z.cells (len*i.size)).size:=by
          have:=Bc.1;have aO:∀(fk:List (Nat×aE)) (h3 fS:List aC),pD (fun x=>some (x*i.size,i.size)) h3 fk=some fS->fS.length=h3.length:=by
           intro fk;induction fk with
           | nil=>intro h3 fS h;simp[pD]at h;rw[h]
           | cons x fk d'=>
            intro h3 fS h;obtain⟨n4,j4⟩:=x;simp only[pD]at h;split at h
            ·split at h
             ·rename_i bH;rw[d' _ _ h,He (by omega)]
             cases h
            cases h
          have:=aO _ _ _ aI;simp[madeCells];omega
         simp[madeCells]at aa;omega
        have fN:(w.alloc (.cells out e)).heap[w.heap.size]?=some (.cells out e (0,0)):=p6;have tF:=aW.h5 d (aiZ MC) (p8 0 (l3 i.size len r)) (k:=i.size) (cap:=len) (es:=es) (w1:=w.alloc (.cells out e))
         ((fC.refl _ _).alloc (ht _) _) fN (by omega) (by rw[Bc.1,MP];exact ht _)
         (fun e' he=>by
          obtain⟨x,ao⟩:=pr.1 he;obtain⟨tB,U,aa⟩:=c2 x e' ao;obtain⟨aA,_⟩:=lU aa;rw[aA];rw[Ht]at U;split at U
          ·simp only[aT]at U;subst U;have:(x+1)*i.size<=len*i.size:=gN _ (by omega);rw[gx]at this;simp;omega
          cases U)
         (fun x j qB aF=>by
          obtain⟨l,U,aa,aA,aO,tB,a8,bG⟩:=VD x j qB aF;obtain⟨u,b9,da⟩:=Bc.2 _ _ aA;refine⟨u,b9,l,aO,da,fun s aj=>?_⟩;have:=Oj (l3 i.size len r) 0 x j tB l s a8 bG aj;rw[dL]at this;exact ai0 MC this)
        rw[hlen]at tF;refine⟨_,_,?_,_,_,tF.1.put (p:=.one (.J (.own d) i.size es)) tF.2⟩;have pP:((Array.range (len*i.size)).map (fun x=>(if len*i.size=0 then (#[]:Array Value) else z.cells)[x % (if len*i.size=0 then (#[]:Array Value) else z.cells).size]!))=madeCells z.cells (len*i.size):=by
         unfold madeCells;by_cases bV:len*i.size=0
         ·simp[bV]
         simp[bV]
        have e:(Array.map (fun (x:Nat×Operand)=>(x.1,a.eval x.2)) parts).toList=parts.toList.map fun x=>(x.1,a.eval x.2):=by simp
        have Wg:¬(len*i.size>2 ^ 24):=by have:(2:Nat) ^ 24=16777216:=(by decide);omega
        simp only[Instr.buildSlice,Sem.run_bind,run_underlying hu,Result.andThen_ok,sizeOf,typeInfo,run_program,hi,Sem.run_pure];rw[bE Wg];by_cases bV:len*i.size=0
        ·simp only[bV,gO]at pP ⊢;simp only[Sem.run_pure,Sem.run_bind,Result.andThen_ok,e];rw[bV]at FF;rw[pP,FF];simp[newRow]
        simp only[bV,mY]at pP ⊢;simp only[zeroValue,typeInfo,Sem.run_bind,run_program,Result.andThen_ok,hi,bk,Sem.run_pure,e];rw[pP,FF];simp[newRow]
       cases h
      cases h
     cases h
    cases h
   cases h
  cases h
 cases h
end Go.Sx
namespace Go.Sx
open Go.RowKit
variable{w:World}{ω a':Own}{k n:Nat}{es:List (List D)}
theorem bS.S2{aP:World}{R hH:List (Nat×Nat)->c4->Prop}{b off cap:Nat}(h:bS w ω R (.J k es) (.slice (some ⟨b,off,none⟩) n cap))
  {arr cc:Array Value} {ty:TypeId} {cF:Nat×Nat} (aw:w.heap[b]?=some (.cells arr ty cF)) (eE:aP.heap[b]?=some (.cells cc ty cF)) (eL:cc.size=arr.size)
  (Vt:∀x,x<off+n*k->cc[x]?=arr[x]?) (AV:∀o,o=ω b->R [] o->hH [] (a' b)) (lN:∀c p q,c<w.heap.size->R (p::q) (ω c)->hH (p::q) (a' c)/\aP.heap[c]?=w.heap[c]?):
  bS aP a' hH (.J k es) (.slice (some ⟨b,off,none⟩) n cap):=by
 generalize bO:Value.slice (some ⟨b,off,none⟩) n cap=y at h;cases h with
 | nil=>cases bO;exact .nil _ _ _
 | row R k es gj oP od ja jk EL us gI dz ap aj bc hu aF=>
  simp only[Value.slice.injEq,aT,Addr.mk.injEq]at bO;obtain⟨⟨rfl,rfl,_⟩,rfl,rfl⟩:=bO;rw[aw]at gI;simp only[aT,Obj.cells.injEq]at gI;obtain⟨rfl,rfl,rfl⟩:=gI;refine .row hH k es b off cap cc ty cF us eE (AV _ rfl dz) ap (by omega) bc (fun i j d dX=>?_) (fun i j d dX=>(aF i j d dX).frame fun c q qN aM=>lN c _ _ qN aM);rw[Vt,hu i j d dX];have nz:i<es.length/\j<k:=by
   unfold cN at dX;grind
  have:(i+1)*k<=es.length*k:=gN _ nz.1;grind
variable{i j:Nat}
theorem rh{d:D}(bc:∀e∈es,e.length=k)(h:cN es i j=some d):i<es.length/\j<k:=by
 unfold cN at h;grind
variable{bL:List (List D)}
theorem yC:cN (es++bL) i j=if i<es.length then cN es i j else cN bL (i-es.length) j:=by
 unfold cN;grind
theorem Ol(bc:∀e∈es,e.length=k)(hi:i<es.length)(bm:j<k):∃d,cN es i j=some d:=by
 simp_all[rQ,cN]
def h8(t:Nat)(dA:Option Nat)(n:Nat):c4->c4
 | .tok s q=>if dA=some s then (match q with | []=>.bz | p::dB=>.tok t ((n+p.1,p.2)::dB)) else .tok s q
 | o=>o
def gS(t:Nat)(dA:Option Nat):Tag->Option Tag
 | .free=>some .free
 | .own s=>if s=t then some (.ro t) else if dA=some s then none else some (.own s)
 | .ro s=>if s=t then none else if dA=some s then none else some (.ro s)
structure Src (P:Program) (w:World) (ω:Own) (k:Nat) (bL:List (List D)) (dA:Option Nat) (y:Value) (news:List Value):Prop where
 len:news.length=bL.length*k
 rows:∀e∈bL,e.length=k
 one:∀u∈news,u.oneCell'=true
 cell:∀i j d,cN bL i j=some d->∃u,news[i*k+j]?=some u/\((∃x,d=.v x/\u=x)\/∃s,dA=some s/\bS w ω (fun q=>(Tag.own s).R ((i,j)::q)) d u)
 shape:((∃a,y=.slice a 0 0)/\bL=[])\/∃b o c,y=.slice (some ⟨b,o,none⟩) bL.length c/\∀j v,news[j]?=some v->w.cell? ((⟨b,o,none⟩:Addr).add j)=some v
variable{t:Nat}{dA:Option Nat}
theorem Hv{o:c4}{id:Nat}:h8 t dA n o=.box id<->o=.box id:=by
 cases o with
 | bz=>simp[h8]
 | box i=>simp[h8]
 | tok s q=>
  simp only[h8];grind
theorem uH{s:Nat}{q:List (Nat×Nat)}(h:dA≠some s):h8 t dA n (.tok s q)=.tok s q:=by simp[h8,h]
theorem ri{w aP:World}{g dS:Tag}(jc:dA≠some t)(ay:gS t dA g=some dS)(c1:g≠.own t)
  (c8:∀c,c<w.heap.size->ω c≠.tok t []->a' c=h8 t dA n (ω c)/\aP.heap[c]?=w.heap[c]?):
  ∀c q,c<w.heap.size->g.R q (ω c)->dS.R q (a' c)/\aP.heap[c]?=w.heap[c]?:=by
 intro c q ap aI;cases g with
 | free=>
  simp only[gS,aT]at ay;subst ay;simp only[Tag.R]at aI;obtain⟨U,aa⟩:=c8 c ap (by rw[aI];simp);rw[U,aI];exact⟨rfl,aa⟩
 | own s=>
  simp only[gS]at ay;have aj:s≠t:=fun e=>c1 (by rw[e])
  rw[bE aj]at ay;split at ay
  ·cases ay
  rename_i hm;simp only[aT]at ay;subst ay;simp_all[Tag.R,uH]
 | ro s=>
  simp only[gS]at ay;split at ay
  ·cases ay
  rename_i aj;split at ay
  ·cases ay
  rename_i hm;simp only[aT]at ay;subst ay;simp only[Tag.R]at aI;rcases aI with aI | ⟨dB,aI⟩
  ·obtain⟨U,aa⟩:=c8 c ap (by rw[aI];simp);rw[U,aI];exact⟨.inl rfl,aa⟩
  obtain⟨U,aa⟩:=c8 c ap (by grind);rw[U,aI,uH hm];exact⟨.inr ⟨dB,rfl⟩,aa⟩
def fx(τ:Nat->Nat×Value)(t k:Nat)(z:Value):Nat->Nat×Value:=fun s=>if s=t then (k,z) else τ s
variable{τ:Nat->Nat×Value}
theorem Bz{k:Nat}{z:Value}{g dS:Tag}{y:Nat×Value}(ay:gS t dA g=some dS)(bO:g.dG τ y):dS.dG (fx τ t k z) y:=by
 cases g with
 | free=>simp only[gS,aT]at ay;subst ay;exact trivial
 | own s=>
  simp only[gS]at ay;split at ay
  ·simp only[aT]at ay;subst ay;exact trivial
  split at ay
  ·cases ay
  simp only[aT]at ay;subst ay;simp_all[Tag.dG,fx,bE]
 | ro s=>
  simp only[gS]at ay;split at ay
  ·cases ay
  split at ay
  ·cases ay
  simp only[aT]at ay;subst ay;exact trivial
theorem Ew{aP:World}{z:Value}(hO:t<cX)(jc:dA≠some t)
  (c8:∀c,c<w.heap.size->ω c≠.tok t []->a' c=h8 t dA n (ω c)/\aP.heap[c]?=w.heap[c]?)
  (qK:∀id b,ω b=.box id->a' b=.box id)
  (qU:∀es y,bS w ω (Tag.own t).R (.J (τ t).1 es) y->y=(τ t).2->bS aP a' (Tag.ro t).R (.J (τ t).1 es) y):
  ∀l v,Sat w ω τ l v->Sat aP a' (fx τ t k z) (l.cB (gS t dA) fun _=>true) v:=by
 intro l v aj;cases l with
 | cp=>exact trivial
 | v x=>exact aj
 | a1 c=>exact aj
 | ptr id off=>
  simp only[aC.cB,gO];obtain⟨b,aw,e⟩:=aj;exact⟨b,qK id b aw,e⟩
 | eS s vs=>
  simp only[aC.cB];split
  ·rename_i rH ay;split
   ·rename_i FN;subst FN;have c1:Tag.own rH≠.own t:=by
     grind[Tag.own.injEq,gS]
    obtain⟨b,ty,arr,e,a8,aA,a7,br⟩:=aj;have bM:b<w.heap.size:=(iV.1 aA).1;have bc:=ri (w:=w) (aP:=aP) jc ay c1 c8 b [] bM a8;refine⟨b,ty,arr,e,bc.1,bc.2.trans aA,BJ (fun c u ap=>?_) a7 br⟩;cases c with
    | cp=>exact trivial
    | v x=>exact ap
    | J g cm es=>
     simp only[eB.cB];cases ay:gS t dA g with
     | none=>exact trivial
     | some dS=>
      by_cases c1:g=.own t
      ·subst c1;simp only[gS,gO,aT]at ay;subst ay;obtain⟨U,aa⟩:=ap;simp only[Tag.dG]at aa;have e1:(τ t).1=cm:=by rw[aa]
       have e2:(τ t).2=u:=by rw[aa]
       exact⟨by grind,ad⟩
      exact⟨ap.1.frame fun c q ap aM=>ri jc ay c1 c8 c q ap aM,Bz ay ap.2⟩
   exact trivial
  exact trivial
 | aL s i j b8 es m=>
  simp only[aC.cB];split
  ·rename_i rH ay;split
   ·rename_i FN;subst FN;have c1:Tag.own rH≠.own t:=by
     grind[Tag.own.injEq,gS]
    obtain⟨u,hu,U,hm⟩:=aj;refine⟨u,hu,U.frame fun c q ap aM=>ri jc ay c1 c8 c _ ap aM,fun bH=>?_⟩;obtain⟨kT,b,off,len,cap,arr,ty,cF,aa,a8,aA,aO⟩:=hm bH;have bM:b<w.heap.size:=(iV.1 aA).1;have bc:=ri (w:=w) (aP:=aP) jc ay c1 c8 b [] bM a8;exact⟨kT,b,off,len,cap,arr,ty,cF,Bz (k:=k) (z:=z) ay aa,bc.1,bc.2.trans aA,aO⟩
   exact trivial
  exact trivial
 | fK f ids=>
  simp only[aC.cB];split
  ·obtain⟨bs,e,a7,hi⟩:=aj;refine⟨bs,e,a7,fun i id hid=>?_⟩;grind
  grind
 | gZ ds off=>
  obtain⟨b,e,aI⟩:=aj;exact⟨b,e,aI.frame fun c q ap aM=>ri (g:=.free) (dS:=.free) jc rfl (by simp) c8 c q ap aM⟩
 | fd d=>exact bS.frame aj fun c q ap aM=>ri (g:=.free) (dS:=.free) jc rfl (by simp) c8 c q ap aM
 | c9 t0 dE du=>exact⟨bS.frame aj.1 fun c q ap aM=>ri (g:=.free) (dS:=.free) jc rfl (by simp) c8 c q ap aM,fun bZ=>(show fx τ t k z t0=τ t0 by simp only[fx];grind).trans (aj.2 bZ)⟩
 | J g cm es=>
  simp only[aC.cB];cases ay:gS t dA g with
  | none=>exact trivial
  | some dS=>
   by_cases c1:g=.own t
   ·subst c1;simp only[gS,gO,aT]at ay;subst ay;obtain⟨U,aa⟩:=aj;simp only[Tag.dG]at aa;have e1:(τ t).1=cm:=by rw[aa]
    have e2:(τ t).2=v:=by rw[aa]
    exact⟨by grind,ad⟩
   exact⟨aj.1.frame fun c q ap aM=>ri jc ay c1 c8 c q ap aM,Bz ay aj.2⟩
 | cU g cm es i j=>
  simp only[aC.cB];cases ay:gS t dA g with
  | none=>exact trivial
  | some dS=>
   obtain⟨b,off,cap,e,hi,aI,bH⟩:=aj;by_cases c1:g=.own t
   ·subst c1;simp only[gS,gO,aT]at ay;subst ay;simp only[Tag.dG]at bH;have e1:(τ t).1=cm:=by rw[bH]
    have e2:(τ t).2=Value.slice (some ⟨b,off,none⟩) es.length cap:=by rw[bH]
    exact⟨b,off,cap,e,hi,by grind,ad⟩
   exact⟨b,off,cap,e,hi,aI.frame fun c q ap aM=>ri jc ay c1 c8 c q ap aM,Bz ay bH⟩
def aD.vn(st:aD)(t:Nat)(dA:Option Nat):aD:=st.map (aC.cB (gS t dA) fun _=>true)
variable{y:Value}
theorem Om{P:Program}{t ty e:TypeId}{i:TypeInfo}(bZ:P.underlying t=some (.slice e))(hi:P.info? e=some i)(w:World){eU:Value}
  (bO:∃a n c,y=.slice a n c/\n<=c) (jv:∃a c,eU=.slice a 0 c):
  (Builtin.append_ #[t,t] ty #[y,eU]).run P w=.ok y w:=by
 obtain⟨a,n,c,rfl,a7⟩:=bO;obtain⟨a2,cw,rfl⟩:=jv;cases a<;>cases a2<;>
  simp[Builtin.append_,run_underlying bZ,sizeOf,typeInfo,hi,Builtin.lenOf,Builtin.firstCells,loadCells,loadCellsFrom,storeCells, *]
theorem Hw{P:Program}{t ty e:TypeId}{i:TypeInfo}(bZ:P.underlying t=some (.slice e))(hi:P.info? e=some i)(w:World)
  (b off n cap:Nat) (arr:Array Value) (hF:TypeId) (ay:w.heap[b]?=some (.cells arr hF (0,0)))
  (cl:Addr) (m c:Nat) (news:List Value) (au:news.length=m*i.size) (iL:∀j u,news[j]?=some u->w.cell? (cl.add j)=some u) (U:∀u∈news,u.oneCell'=true)
  (qY:n+m<=cap) (ez:off+n*i.size+news.length<=arr.size):
  (Builtin.append_ #[t,t] ty #[.slice (some ⟨b,off,none⟩) n cap,.slice (some cl) m c]).run P w=
   .ok (.slice (some ⟨b,off,none⟩) (n+m) cap) (w.setRow b (arr.toList.take (off+n*i.size)++news++arr.toList.drop (off+n*i.size+news.length)).toArray):=by
 have b7:=run_firstCells_some (P:=P) w i.size m cl m c news au iL;have e5:=run_storeCells_at P b (off+n*i.size) hF news 0 arr w ay (by grind) U;simp only[mX]at e5;simp[Builtin.append_,run_underlying bZ,sizeOf,typeInfo,hi,Builtin.lenOf,qY,b7,pb,e5]
theorem Src.LZ{P:Program}{aP:World}{a':Own}{n:Nat}{news:List Value}(h:Src P w ω k bL dA y news)(jc:dA≠some t)
  (c8:∀c,c<w.heap.size->ω c≠.tok t []->a' c=h8 t dA n (ω c)/\aP.heap[c]?=w.heap[c]?) {i j:Nat} {d:D} (aF:cN bL i j=some d):
  ∃u,news[i*k+j]?=some u/\bS aP a' (fun q=>(Tag.own t).R ((n+i,j)::q)) d u:=by
 obtain⟨u,U,aa⟩:=h.cell i j d aF;refine⟨u,U,?_⟩;rcases aa with⟨x,rfl,rfl⟩ | ⟨s,aj,aI⟩
 ·exact .v _ _ (h.one _ (fe U))
 refine aI.frame fun c q ap aM=>?_
 grind[Tag.R,h8]
theorem cy.append{P:Program}{w0:dY}{st:aD}{a:Act}(aW:cy w0 st a w ω τ){eU:Value}{news:List Value}
  (hp:Sat w ω τ (.J (.own t) k es) y) (ik:Src P w ω k bL dA eU news) (jc:dA≠some t) {ty g' e:TypeId} {i:TypeInfo} {z:Value}
  (bZ:P.underlying g'=some (.slice e)) (hi:P.info? e=some i) (bk:i.zero=some z) (bc:i.size=k) (nF:z.cells.size=k)
  (hh:(es.length+bL.length)*i.bytes<=140737488355328) (gI:es.length+bL.length<=9223372036854775807) (hO:t<cX):
  ∃r aP a',(Builtin.append_ #[g',g'] ty #[y,eU]).run P w=.ok r aP/\cy w0 (st.vn t dA) a aP a' (fx τ t k r)/\Sat aP a' (fx τ t k r) (.J (.own t) k (es++bL)) r:=by
 subst bc;obtain⟨aI,bH⟩:=hp;simp only[Tag.dG]at bH;have e1:(τ t).1=i.size:=by rw[bH]
 have e2:(τ t).2=y:=by rw[bH]
 have Fj:∀r:Value,∀s,cX<=s->fx τ t i.size r s=τ s:=fun r s aj=>by simp only[fx];grind
 have V3:(Tag.own t).dG (fx τ t i.size y) (i.size,y):=by simp[Tag.dG,fx]
 by_cases hm:bL.length=0
 ·
  have Fi:bL=[]:=w9 hm;subst Fi
  let a':Own:=fun c=>h8 t dA es.length (ω c)
  have c8:∀c,c<w.heap.size->ω c≠.tok t []->a' c=h8 t dA es.length (ω c)/\w.heap[c]?=w.heap[c]?:=fun c _ _=>⟨rfl,rfl⟩
  have fO:(Builtin.append_ #[g',g'] ty #[y,eU]).run P w=.ok y w:=by
   refine Om bZ hi w ?_ ?_
   ·cases aI with
    | nil _ _ a0=>grind
    | row R k es b off cap arr ty cF us aw dz ap aj bc hu aF=>grind
   rcases ik.shape with⟨⟨a,h⟩,_⟩ | ⟨b,o,c,h,_⟩
   ·grind
   grind
  refine⟨y,w,a',fO,aW.eo _ (Ew hO jc c8 (fun id b aw=>by grind[h8]) ?_) aW.below ?_ ?_ ?_ (Fj _),?_,V3⟩
  ·intro cq fW eh _;refine eh.frame fun c q ap aM=>⟨?_,rfl⟩
   grind[Tag.R,uH]
  ·intro b aw;have:ω b≠.bz:=fun e=>by grind[h8]
   exact aW.owned b this
  ·intro id b aw;exact⟨by grind[h8],rfl⟩
  ·intro id b aw;exact Hv.1 aw
  rw[kt];refine aI.frame fun c q ap aM=>⟨?_,rfl⟩
  grind[Tag.R,uH]
 have xS:0<bL.length:=by omega
 rcases ik.shape with⟨_,h⟩ | ⟨a1,kS,ph,rfl,iL⟩
 ·grind
 have grown:∀(w1:World) (cc:Array Value) (r:Value) (nf:Nat),fC w.heap.size w w1->w1.heap[w.heap.size]?=some (.cells cc e (0,0))->r=.slice (some ⟨w.heap.size,0,none⟩) (es.length+bL.length) nf->
   es.length+bL.length<=nf->nf*i.size<=cc.size->(∀fj j d,cN es fj j=some d->∃u,cc[fj*i.size+j]?=some u/\∃R:List (Nat×Nat)->c4->Prop,(∀q o,R q o->o=.tok t ((fj,j)::q))/\bS w ω R d u)->
   (∀x u,news[x]?=some u->cc[es.length*i.size+x]?=some u)->(∀e∈es,e.length=i.size)->
   ∃a',cy w0 (st.vn t dA) a w1 a' (fx τ t i.size r)/\Sat w1 a' (fx τ t i.size r) (.J (.own t) i.size (es++bL)) r:=by
  intro w1 cc r nf iK fN FH hZ eL hold Ba tP;subst FH
  let a':Own:=fun c=>if c=w.heap.size then .tok t [] else @ite _ (ω c=.tok t []) (Classical.propDecidable _) .bz (h8 t dA es.length (ω c))
  have asW:ω w.heap.size=.bz:=aW.owned.fresh (ht _);have c8:∀c,c<w.heap.size->ω c≠.tok t []->a' c=h8 t dA es.length (ω c)/\w1.heap[c]?=w.heap[c]?:=by
   intro c ap c1;refine⟨?_,iK.block c ap⟩;grind
  have mv:a' w.heap.size=.tok t []:=by simp[a']
  have lN:∀c p q,c<w.heap.size->ω c=.tok t (p::q)->a' c=.tok t (p::q):=by
   grind[uH]
  refine⟨a',aW.eo _ (Ew hO jc c8 ?_ ?_) (aW.below.next iK) ?_ ?_ ?_ (Fj _),?_,by simp[Tag.dG,fx]⟩
  ·intro id b aw;have bM:=aW.owned.lt (b:=b) (by simp[aw]);rw[(c8 b bM (by rw[aw];simp)).1,aw];rfl
  ·intro cq fW eh _;refine eh.frame fun c q ap aM=>⟨?_,iK.block c ap⟩
   simp only[Tag.R]at aM ⊢;cases q with
   | nil=>grind
   | cons p q=>grind
  ·intro b aw;by_cases vF:b=w.heap.size
   ·subst vF;exact⟨.inl aW.below.size,cc,e,fN⟩
   have:ω b≠.bz:=by
    intro e';simp only[a']at aw;simp_all[bE,h8]
   obtain⟨aA,ja,jk,aO⟩:=aW.owned b this;grind
  ·intro id b aw;have bM:=aW.owned.lt (b:=b) (by simp[aw]);obtain⟨U,aa⟩:=c8 b bM (by rw[aw];simp);exact⟨by rw[U,aw];rfl,aa⟩
  ·intro id b aw;by_cases vF:b=w.heap.size
   ·grind
   simp only[a']at aw;rw[bE vF]at aw;split at aw
   ·cases aw
   exact Hv.1 aw
  have eI:∀x j d,cN (es++bL) x j=some d->∃u,cc[x*i.size+j]?=some u/\bS w1 a' (fun q=>(Tag.own t).R ((x,j)::q)) d u:=by
   intro x j d aF;rw[yC]at aF;split at aF
   ·obtain⟨u,U,R,dz,aa⟩:=hold x j d aF;refine⟨u,U,aa.frame fun c q ap aM=>⟨?_,iK.block c ap⟩⟩;exact lN c _ _ ap (dz q _ aM)
   rename_i ao;obtain⟨u,U,aa⟩:=ik.LZ (aP:=w1) (a':=a') (n:=es.length) jc c8 aF;refine⟨u,?_,?_⟩
   ·rw[<-Ba _ u U]
    congr 1
    have:x=es.length+(x-es.length):=by omega
    grind
   simp_all
  have hlen:(es++bL).length=es.length+bL.length:=ku;have oE:∀e∈es++bL,e.length=i.size:=by
   intro e' he;rcases lv.1 he with h | h
   ·grind
   exact ik.rows e' h
  have:=bS.row (w:=w1) (ω:=a') (Tag.own t).R i.size (es++bL) w.heap.size 0 nf cc e (0,0) (fun x j=>cc.getD (x*i.size+j) undef) fN mv (by omega) (by omega) oE
   (fun x j d aF=>by obtain⟨u,U,_⟩:=eI x j d aF;simp_all)
   (fun x j d aF=>by obtain⟨u,U,aa⟩:=eI x j d aF;simp_all)
  grind
 generalize M1:y=Dr at aI;cases aI with
 | nil _ _ a0=>
  subst M1;simp only[dM,dL]at hh gI;have fO:(Builtin.append_ #[g',g'] ty #[.slice a0 0 0,.slice (some ⟨a1,kS,none⟩) bL.length ph]).run P w=
    .ok (.slice (some ⟨w.heap.size,0,none⟩) bL.length (grownCap w bL.length 0 e)) (w.drew.alloc (.cells (news.toArray++Builtin.zeroCells z.cells (grownCap w bL.length 0 e-bL.length)) e)):=by
   cases a0 with
   | none=>exact run_append_nil (P:=P) w g' ty e i z bZ hi bk ⟨a1,kS,none⟩ bL.length ph news ik.len iL xS (by omega) (by omega)
   | some cj=>
    have:=run_append_grow (P:=P) w g' ty e i z bZ hi bk cj 0 0 [] (by simp) (fun j v br=>by simp at br) ⟨a1,kS,none⟩ bL.length ph news ik.len iL (by omega) (by omega) (growslice_fits (by omega) (by grind));grind
  have ox:=grownCap_ge w bL.length 0 e;obtain⟨a',U,aa⟩:=grown _ (news.toArray++Builtin.zeroCells z.cells (grownCap w bL.length 0 e-bL.length)) (.slice (some ⟨w.heap.size,0,none⟩) bL.length (grownCap w bL.length 0 e)) (grownCap w bL.length 0 e)
   (((fC.refl _ _).drew).alloc (ht _) _) (p6) (by simp) (by grind) (by
    simp only[w8,rN,size_zeroCells,ik.len,nF,<-gx];grind)
   (fun fj j d aF=>by grind[cN]) (fun x u ao=>by
    grind) (fun e he=>by cases he)
  grind
 | row R k es b off cap arr hF cF us aw dz ap aj gp hu aF=>
  have jQ:ω b=.tok t []:=dz;obtain⟨tN,r1,tc,hX⟩:=aW.owned b (by grind);rw[aw]at hX;simp only[aT,Obj.cells.injEq]at hX;obtain⟨rfl,rfl,rfl⟩:=hX;have tG:b<w.heap.size:=(iV.1 aw).1;by_cases qY:es.length+bL.length<=cap
  ·
   have hmul:(es.length+bL.length)*i.size<=cap*i.size:=gN _ qY;rw[gx]at hmul;have qS:=ik.len;have ez:off+es.length*i.size+news.length<=arr.size:=by omega
   have fO:=Hw (P:=P) (ty:=ty) bZ hi w b off es.length cap arr hF aw ⟨a1,kS,none⟩ bL.length ph news ik.len iL ik.one qY ez;generalize nt:(arr.toList.take (off+es.length*i.size)++news++arr.toList.drop (off+es.length*i.size+news.length)).toArray=cc at fO;have hM:∀x:Nat,cc[x]?=if off+es.length*i.size<=x/\x<off+es.length*i.size+news.length then news[x-(off+es.length*i.size)]? else arr[x]?:=by
    intro x;rw[<-nt,qk,yA (by grind)];simp
   have tR:cc.size=arr.size:=by grind
   have jS:=setRow_heap w b arr cc hF (0,0) aw
   let a':Own:=fun c=>h8 t dA es.length (ω c)
   have c8:∀c,c<w.heap.size->ω c≠.tok t []->a' c=h8 t dA es.length (ω c)/\(w.setRow b cc).heap[c]?=w.heap[c]?:=fun c _ c1=>
    ⟨rfl,setRow_other w b c cc fun e=>c1 (by grind)⟩
   have mv:a' b=.tok t []:=by grind[uH]
   have lN:∀c p q,c<w.heap.size->ω c=.tok t (p::q)->a' c=.tok t (p::q)/\(w.setRow b cc).heap[c]?=w.heap[c]?:=by
    intro c p q ap aM;obtain⟨U,aa⟩:=c8 c ap (by rw[aM];simp);rw[U,aM,uH jc];grind
   refine⟨_,_,a',fO,aW.eo _ (Ew hO jc c8 (fun id c h0=>by grind[h8]) ?_) ?_ ?_ ?_ ?_ (Fj _),?_,by simp[Tag.dG,fx]⟩
   ·intro cq fW eh tK;rw[tK,e2,M1]at eh ⊢;rw[e1]at eh ⊢;have oA:es.length=cq.length:=by
     obtain⟨_,_,h⟩:=eh.len;grind
    refine bS.S2 eh aw jS tR (fun x ao=>?_) (fun o a6 vP=>?_) (fun c p q ap aM=>?_)
    ·grind
    ·right;grind
    grind[Tag.R]
   ·exact aW.below.setRow tN cc
   ·intro c h0;have:ω c≠.bz:=fun e=>by grind[h8]
    obtain⟨aA,ja,jk,aO⟩:=aW.owned c this;grind[setRow_other]
   ·grind[id,h8,setRow_other]
   ·intro id c h0;exact Hv.1 h0
   have eI:∀x j d,cN (es++bL) x j=some d->∃u,cc[off+x*i.size+j]?=some u/\bS (w.setRow b cc) a' (fun q=>(Tag.own t).R ((x,j)::q)) d u:=by
    intro x j d dH;rw[yC]at dH;split at dH
    ·rename_i ao;have xQ:=(rh gp dH).2;refine⟨us x j,?_,(aF x j d dH).frame fun c q ap aM=>?_⟩
     ·have:(x+1)*i.size<=es.length*i.size:=gN _ ao;rw[gx]at this;rw[hM,bE (by omega),hu x j d dH]
     exact lN c _ _ ap aM
    rename_i ao;obtain⟨u,U,aa⟩:=ik.LZ (aP:=w.setRow b cc) (a':=a') (n:=es.length) jc c8 dH;have WX:=(fA.1 U).1;have vS:x*i.size=es.length*i.size+(x-es.length)*i.size:=by rw[<-gx];grind
    refine⟨u,?_,?_⟩
    ·rw[hM,bU (by omega),<-U]
     congr 1
     omega
    rwa[show es.length+(x-es.length)=x by omega]at aa
   have hlen:(es++bL).length=es.length+bL.length:=ku;have oE:∀e∈es++bL,e.length=i.size:=by
    intro e' he;rcases lv.1 he with h | h
    ·grind
    exact ik.rows e' h
   have:=bS.row (w:=w.setRow b cc) (ω:=a') (Tag.own t).R i.size (es++bL) b off cap cc hF (0,0) (fun x j=>cc.getD (off+x*i.size+j) undef) jS mv (by omega) (by omega) oE
    (fun x j d aF=>by obtain⟨u,U,_⟩:=eI x j d aF;rw[U];simp[eg,U])
    (fun x j d aF=>by obtain⟨u,U,aa⟩:=eI x j d aF;have:cc.getD (off+x*i.size+j) undef=u:=(by simp[eg,U]);grind)
   grind
  -- it asF
  have hmul:es.length*i.size<=cap*i.size:=gN _ ap;have pM:((arr.toList.drop off).take (es.length*i.size)).length=es.length*i.size:=by simp;omega
  have fO:=run_append_grow (P:=P) w g' ty e i z bZ hi bk ⟨b,off,none⟩ es.length cap ((arr.toList.drop off).take (es.length*i.size)) pM (fun j v br=>by
   grind[pb,cell_of_row]) ⟨a1,kS,none⟩ bL.length ph news ik.len iL (by omega) (by omega) (growslice_fits (by omega) hh)
  have ox:=grownCap_ge w (es.length+bL.length) cap e;obtain⟨a',U,aa⟩:=grown _ (((arr.toList.drop off).take (es.length*i.size)).toArray++news.toArray++Builtin.zeroCells z.cells (grownCap w (es.length+bL.length) cap e-(es.length+bL.length))) _ (grownCap w (es.length+bL.length) cap e)
   (((fC.refl _ _).drew).alloc (ht _) _) (p6) rfl ox (by
    simp only[w8,rN,size_zeroCells,ik.len,nF,pM,<-gx];grind)
   (fun fj j d dX=>by
    obtain⟨vK,eb⟩:=rh gp dX;have:(fj+1)*i.size<=es.length*i.size:=gN _ vK;rw[gx]at this;refine⟨us fj j,?_,fun q=>(Tag.own t).R ((fj,j)::q),fun q o h=>h,aF fj j d dX⟩;grind)
   (fun x u ao=>by
    have k7:=(fA.1 ao).1;rw[kU,bU (by grind),kU,bE (by grind)];grind) gp
  grind
end Go.Sx
namespace Go.Sx
open Go.RowKit
def Flat(es:List (List D)):Prop:=∀e∈es,∀d∈e,∃x,d=.v x
theorem ai2{es:List (List D)}{i j:Nat}{d:D}(h:cN es i j=some d):∃e∈es,d∈e:=by
 unfold cN at h;cases ao:es[i]? with
 | none=>grind
 | some e=>rw[ao,l8]at h;exact⟨e,fe ao,fe h⟩
variable{P:Program}{w:World}{ω:Own}{k:Nat}{dA:Option Nat}
theorem Src.empty(a:Option Addr):Src P w ω k [] dA (.slice a 0 0) [] where
 len:=by simp
 rows:=fun _ h=>(by cases h)
 one:=fun _ h=>(by cases h)
 cell:=fun i j d aF=>by grind[cN]
 shape:=.inl ⟨⟨a,rfl⟩,rfl⟩
theorem Src.of{R:List (Nat×Nat)->c4->Prop}{bL:List (List D)}{y:Value}(h:bS w ω R (.J k bL) y)(mq:0<k)
  (ap:Flat bL\/∃s,dA=some s/\R=(Tag.own s).R):∃news,Src P w ω k bL dA y news:=by
 cases h with
 | nil=>exact⟨[],Src.empty _⟩
 | row R k es b off cap arr ty cF us aw dz hZ aj gp hu aF=>
  have hmul:bL.length*k<=cap*k:=gN _ hZ;have hM:∀x:Nat,((arr.toList.drop off).take (bL.length*k))[x]?=if x<bL.length*k then arr[off+x]? else none:=by
   grind
  have eI:∀i j d,cN bL i j=some d->((arr.toList.drop off).take (bL.length*k))[i*k+j]?=some (us i j):=by
   intro i j d dX;obtain⟨hi,bm⟩:=rh gp dX;have:(i+1)*k<=bL.length*k:=gN _ hi;grind
  refine⟨(arr.toList.drop off).take (bL.length*k),by simp;omega,gp,?_,?_,.inr ⟨b,off,cap,rfl,?_⟩⟩
  ·intro u il;obtain⟨x,ao⟩:=pr.1 il;have bM:x<bL.length*k:=by
    grind
   have vS:x=(x / k)*k+x % k:=by grind[Nat.mul_comm,Nat.div_add_mod]
   have aM:x / k<bL.length:=Nat.div_lt_of_lt_mul (by grind);obtain⟨d,dX⟩:=Ol gp aM (Nat.mod_lt x mq);have U:=eI _ _ _ dX;rw[<-vS,ao]at U;rw[fB U];exact (aF _ _ _ dX).nP
  ·intro i j d dX;refine⟨us i j,eI i j d dX,?_⟩;rcases ap with b7 | ⟨s,qZ,tQ⟩
   ·obtain⟨e,he,VK⟩:=ai2 dX;obtain⟨x,rfl⟩:=b7 e he d VK;have:=aF i j _ dX;cases aA:us i j<;>(rw[aA]at this;cases this;grind)
   simp_all
  grind[pb,cell_of_row]
variable{τ:Nat->Nat×Value}
theorem cy.GJ{w0:dY}{st:aD}{a:Act}(h:cy w0 st a w ω τ)(t k:Nat)(hO:t<cX):
  ∃a',cy w0 (st.h5 t []) a w a' (fx τ t k (.slice none 0 0))/\Sat w a' (fx τ t k (.slice none 0 0)) (.J (.own t) k []) (.slice none 0 0):=by
 refine⟨fun b=>nR t [] (ω b),h.eo _ (kx.sat (g:=hk t []) (p:=fun _=>true) ⟨?_,?_,?_,rfl,fun s aj=>by simp only[fx];grind⟩) h.below ?_ ?_ ?_ (fun s aj=>by simp only[fx];grind),.nil _ _ _,by simp[Tag.dG,fx]⟩
 ·grind[Og]
 ·intro g dS y ay bO;cases g with
  | free=>simp only[hk,aT]at ay;subst ay;exact trivial
  | own s=>
   simp only[hk]at ay;split at ay
   ·simp only[aT]at ay;subst ay;exact trivial
   split at ay
   ·cases ay
   simp only[aT]at ay;subst ay;simp_all[Tag.dG,fx,bE]
  | ro s=>
   simp only[hk]at ay;split at ay
   ·simp only[aT]at ay;subst ay;exact trivial
   split at ay
   ·cases ay
   simp only[aT]at ay;subst ay;exact trivial
 ·intro id b _ aw;exact BR.2 aw
 ·intro b aw;exact h.owned b fun e=>by simp only[e]at aw;exact aw rfl
 ·intro id b aw;exact⟨BR.2 aw,rfl⟩
 intro id b aw;exact BR.1 aw
def tx(t k:Nat)(q:aE)(ans:List b'):Option (List (List D)×Option Nat×List b'×List Prop):=
 match q.leaf,ans with
 | some (.J (.own s) cm bL),.wr::r=>if cm=k/\s≠t then some (bL,some s,r,[]) else none
 | some (.J _ cm bL),ans=>if cm=k then some (bL,none,ans,[Flat bL]) else none
 | some (.v (.slice none 0 0)),ans=>some ([],none,ans,[])
 | some (.aL _ _ _ cm bL .here),ans=>if cm=k then some (bL,none,ans,[Flat bL]) else none
 | some (.aL _ _ _ cm bL .ky),ans=>if cm=k then some (bL,none,ans,[Flat bL]) else none
 | _,_=>none
theorem On{P:Program}{t:Nat}{q:aE}{y:Value}{ans cf:List b'}{bL:List (List D)}{obs:List Prop}(mq:0<k)
  (aM:cH (Sat w ω τ) q y) (h:tx t k q ans=some (bL,dA,cf,obs)) (a6:cv obs):dA≠some t/\∃news,Src P w ω k bL dA y news:=by
 unfold tx at h;split at h
 ·rename_i s cm es r e;split at h
  ·rename_i ap;obtain⟨rfl,c1⟩:=ap;simp only[aT,bq]at h;obtain⟨rfl,rfl,_,_⟩:=h;exact⟨by grind,Src.of (aE.dt e aM).1 mq (.inr ⟨s,rfl,rfl⟩)⟩
  cases h
 ·rename_i g cm es e _;split at h
  ·rename_i ap;subst ap;simp only[aT,bq]at h;obtain⟨rfl,rfl,_,rfl⟩:=h;exact⟨by simp,Src.of (aE.dt e aM).1 mq (.inl a6.1)⟩
  cases h
 ·rename_i e;simp only[aT,bq]at h;obtain⟨rfl,rfl,_,_⟩:=h;have:y=.slice none 0 0:=aE.dt e aM;subst this;exact⟨by simp,[],Src.empty _⟩
 ·rename_i s zC zD cm es e;split at h
  ·rename_i ap;subst ap;simp only[aT,bq]at h;obtain⟨rfl,rfl,_,rfl⟩:=h;obtain⟨gg,rfl,aI,_⟩:=aE.dt e aM;exact⟨by simp,Src.of aI mq (.inl a6.1)⟩
  cases h
 ·rename_i s zC zD cm es e;split at h
  ·rename_i ap;subst ap;simp only[aT,bq]at h;obtain⟨rfl,rfl,_,rfl⟩:=h;obtain⟨gg,rfl,aI,_⟩:=aE.dt e aM;exact⟨by simp,Src.of aI mq (.inl a6.1)⟩
  cases h
 cases h
def AA(d:Nat)(st:aD)(k:Nat)(p:aE):Option (aD×Nat×List (List D)):=
 match p.leaf with
 | some (.J (.own t) cm es)=>if cm=k then some (st,t,es) else none
 | some (.v (.slice none 0 0))=>some (st.h5 d [],d,[])
 | _=>none
def wW(P:Program)(st:aD)(d:Nat)(t:TypeId)(x y:Operand)(ans:List b'):Stepped:=
 match pc P t with
 | some (e,k)=>
  match P.info? e,AA d st k (st.bj x) with
  | some i,some (dx,gf,es)=>
   match i.zero,tx gf k (dx.bj y) ans with
   | some z,some (bL,dA,cf,obs)=>
    if z.cells.size=k/\0<k/\gf<cX then
     some (⟨(dx.vn gf dA).env.set d (.one (.J (.own gf) k (es++bL))),(dx.vn gf dA).boxes⟩,cf,((es.length+bL.length)*i.bytes<=140737488355328)::(es.length+bL.length<=9223372036854775807)::obs)
    else none
   | _,_=>none
  | _,_=>none
 | none=>none
theorem cy.wW{w0:dY}{st bl:aD}{a:Act}{d:Nat}{t ty:TypeId}{x y:Operand}{ans cf:List b'}{obs:List Prop}
  (aW:cy w0 st a w ω τ) (h:Sx.wW P st d t x y ans=some (bl,cf,obs)) (a6:cv obs):
  ∃z aP,(Builtin.append_ #[t,t] ty #[a.eval x,a.eval y]).run P w=.ok z aP/\Rel w0 bl (a.put (some d) z) aP:=by
 unfold Sx.wW at h;split at h
 ·rename_i e k he;obtain⟨hu,i0,qQ,vQ⟩:=uF he;split at h
  ·rename_i i dx gf es hi iN;rw[qQ]at hi;have ny:=fB hi;subst ny;split at h
   ·rename_i z bL dA tw vY bk ik;split at h
    ·rename_i ap;simp only[aT,bq]at h;obtain⟨rfl,rfl,rfl⟩:=h;obtain⟨cx,cd,cD⟩:=a6;have:∃D9 LM,cy w0 dx a w D9 LM/\Sat w D9 LM (.J (.own gf) k es) (a.eval x):=by
      unfold AA at iN;split at iN
      ·rename_i di cm cq au;split at iN
       ·rename_i gp;subst gp;simp only[aT,bq]at iN;obtain⟨rfl,rfl,rfl⟩:=iN;exact⟨ω,τ,aW,aE.dt au (aW.bj x)⟩
       cases iN
      ·rename_i au;simp only[aT,bq]at iN;obtain⟨rfl,rfl,rfl⟩:=iN;have:a.eval x=.slice none 0 0:=aE.dt au (aW.bj x);rw[this];obtain⟨D9,U,aa⟩:=aW.GJ d k ap.2.2;grind
      cases iN
     obtain⟨D9,LM,gB,ao⟩:=this;obtain⟨jc,news,aj⟩:=On (P:=P) ap.2.1 (gB.bj y) ik cD;obtain⟨r,aP,a',U,aa,aA⟩:=gB.append (P:=P) (ty:=ty) ao aj jc hu qQ bk vQ ap.1 cx cd ap.2.2;exact⟨r,aP,U,a',_,aa.put (p:=.one (.J (.own gf) k (es++bL))) aA⟩
    cases h
   cases h
  cases h
 cases h
