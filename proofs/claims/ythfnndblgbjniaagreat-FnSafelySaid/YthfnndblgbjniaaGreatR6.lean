import Derived.Test.YthfnndblgbjniaaGreatR1
set_option linter.unusedVariables false
set_option linter.unusedSimpArgs false
namespace Go.Sx
open Go.RowKit
def rX(id:Nat)(fV:List aG):List (Nat×List aG)->List (Nat×List aG)
 | []=>[]
 | (i,ls)::r=>if i=id then (i,fV)::r else (i,ls)::rX id fV r
variable{id:Nat}{fV:List aG}
theorem Ay:∀{bs:List (Nat×List aG)} {ls:List aG},dK id bs=some ls->dK id (rX id fV bs)=some fV
 | [],_,h=>by cases h
 | (i,l)::r,ls,h=>by
  simp only[rX];by_cases hi:i=id
  ·simp_all[bq,dK]
  simp_all[bD,dK,Ay]
theorem Az{iV:Nat}(aW:iV≠id):∀{bs:List (Nat×List aG)},dK iV (rX id fV bs)=dK iV bs
 | []=>rfl
 | (i,l)::r=>by
  simp only[rX];by_cases hi:i=id
  ·simp_all[bq,dK,bD,Ne.symm]
  simp_all[bD,dK,Az]
theorem Tag.acH{t:Tag}{q:List (Nat×Nat)}:¬t.R q (.box id):=by
 cases t with
 | free=>exact fun h=>by cases h
 | own s=>exact fun h=>by cases h
 | ro s=>exact fun h=>by rcases h with h | ⟨_,h⟩<;>cases h
theorem Sat.aDR{w:World}{ω:Own}{τ:Nat->Nat×Value}{b:Nat}(aw:ω b=.box id)(cs:Array Value):∀(l:aG) (v:Value),Sat w ω τ l v->Sat (w.setRow b cs) ω τ l v:=by
 have bt:mQ w ω τ (w.setRow b cs) ω τ sV (fun _=>true):=by
  refine⟨?_,?_,fun _ _ _ h=>h,rfl,fun _ _=>rfl⟩
  ·intro t dx dE q ay _ aH;simp only[sV,aZ]at ay;grind[setRow_other,Tag.acH]
  simp_all[sV,aZ]
 intro l v ao;have:=bt.sat l v ao;cases l with
 | aR t i j k es m=>
  obtain⟨u,hu,h1,hm⟩:=ao;refine⟨u,hu,h1.frame fun c q ai aH=>⟨aH,setRow_other w b c cs fun e=>?_⟩,fun bO=>?_⟩
  ·grind
  obtain⟨kT,fT,off,len,cap,arr,ty,cY,U,a7,aA,aJ⟩:=hm bO;exact⟨kT,fT,off,len,cap,arr,ty,cY,U,a7,(setRow_other w b fT cs fun e=>by grind).trans aA,aJ⟩
 | fP t vs=>
  obtain⟨fT,ty,arr,e,a7,aA,aW,bF⟩:=ao;refine⟨fT,ty,arr,e,a7,(setRow_other w b fT cs fun e=>by grind).trans aA,aW,fun j c ai=>?_⟩;obtain⟨u,h1,U⟩:=bF j c ai;refine⟨u,h1,?_⟩;have ez:=bt.jN c u U;have:fq.cN sV c=c:=by cases c<;>simp[fq.cN,sV]
  grind
 | _=>simp_all[aG.cN,sV]
variable{w0:eT}{st:aD}{a:Act}{w:World}{ω:Own}{τ:Nat->Nat×Value}
theorem cM.aDX(h:cM w0 st a w ω τ){ls:List aG}(ay:dK id st.boxes=some ls)
  {b:Nat} (aw:ω b=.box id) {cm:Array Value} (ao:lf (Sat w ω τ) fV cm):
  cM w0 ⟨st.env,rX id fV st.boxes⟩ a (w.setRow b cm) ω τ:=by
 obtain⟨dE,arr,ty,eE,hu,bO,e8⟩:=h.boxes id ls ay;have:=hu b aw;subst this;have KM:=Sat.aDR (w:=w) (ω:=ω) (τ:=τ) aw cm;have l6:=setRow_heap w b arr cm ty (0,0) bO;refine⟨h.defers,h.size,?_,?_,h.fixed,h.pinned,?_,?_⟩
 ·exact h.below.setRow (h.owned b (by simp[aw])).1 cm
 ·intro c ai;obtain⟨h1,kt,kJ,U⟩:=h.owned c ai;grind[setRow_other]
 ·intro i p hp;obtain⟨v,h1,U⟩:=h.env i p hp;refine⟨v,h1,?_⟩;have:=cW.map (f:=_root_.id) KM U;have e:aI.map _root_.id p=p:=by
   cases p with
   | aF a=>cases a<;>simp[aI.map,bp.map]
   | gx as=>
    simp only[aI.map]
    congr 1
    have:bp.map _root_.id=_root_.id:=by funext a;cases a<;>simp[bp.map]
    simp_all
  grind
 intro i l al;by_cases e:i=id
 ·subst e;rw[Ay ay]at al;have e:=gO al;subst e;refine⟨b,cm,ty,aw,hu,l6,?_⟩;have:=ao.map (f:=_root_.id) KM;simp_all
 rw[Az e]at al;obtain⟨c,kt,kJ,ai,adE,tZ,oz⟩:=h.boxes i l al;have cZ:c≠b:=fun e'=>by grind
 refine⟨c,kt,kJ,ai,adE,(setRow_other w b c cm cZ).trans tZ,?_⟩;have:=oz.map (f:=_root_.id) KM;simp_all
abbrev Stepped:=Option (aD×List cf×List Prop)
def MW(st:aD)(d:Nat)(p:aI)(ans:List cf):Stepped:=
 if d<dk then p.leaves.map fun ls=>(⟨(st.vJ d ls).env.set d (.one (.ptr d 0)),(st.vJ d ls).boxes⟩,ans,[]) else none
variable{bG:aD}{ans cv:List cf}{obs:List Prop}
theorem cM.box{P:Program}{d:Nat}{p:aI}{v:Value}(a6:cM w0 st a w ω τ)
  (hp:cW (Sat w ω τ) p v) (h:MW st d p ans=some (bG,cv,obs)) (ty:TypeId):
  ∃z aN,(do pure (.pointer (some (<-newVar ty v))):Sem Value).run P w=.ok z aN/\Rel w0 bG (a.put (some d) z) aN:=by
 unfold MW at h;split at h
 case isFalse=>cases h
 rename_i vw;rw[ca]at h;obtain⟨ls,h1,h⟩:=h;simp only[bL]at h;obtain⟨rfl,_,_⟩:=h;obtain⟨ao,_⟩:=aI.zG h1 hp;obtain⟨bh,KI,di⟩:=a6.vJ d vw ty ao;refine⟨.pointer (some ⟨w.heap.size,0,none⟩),w.alloc (.cells v.cells ty),by simp[newVar,newRow],bh,τ,?_⟩;exact KI.put (p:=.one (.ptr d 0)) ⟨w.heap.size,di,rfl⟩
def MX(P:Program)(st:aD)(d:Nat)(elem:TypeId)(ans:List cf):Stepped:=
 match P.info? elem with
 | some i=>match i.zero with
  | some z=>if d<dk then let ls:=z.cells.toList.map .v;some (⟨(st.vJ d ls).env.set d (.one (.ptr d 0)),(st.vJ d ls).boxes⟩,ans,[]) else none
  | none=>none
 | none=>none
theorem cM.alloc{P:Program}{d:Nat}{elem:TypeId}(a6:cM w0 st a w ω τ)
  (h:MX P st d elem ans=some (bG,cv,obs)):
  ∃z aN,(Instr.alloc elem true (.tuple #[])).run P w=.ok z aN/\Rel w0 bG (a.put (some d) z) aN:=by
 unfold MX at h;split at h
 ·rename_i i hi;split at h
  ·rename_i z bb;split at h
   case isFalse=>cases h
   rename_i vw;simp only[aZ,bL]at h;obtain⟨rfl,_,_⟩:=h;have ao:lf (Sat w ω τ) (z.cells.toList.map .v) z.cells:=by
    refine⟨by simp,fun j l al=>?_⟩;rw[dI,ca]at al;obtain⟨u,hu,rfl⟩:=al;exact⟨u,by grind,rfl⟩
   obtain⟨bh,KI,di⟩:=a6.vJ d vw elem ao;refine⟨.pointer (some ⟨w.heap.size,0,none⟩),w.alloc (.cells z.cells elem),by simp_all[Instr.alloc,zeroValue,typeInfo,newVar,newRow],bh,τ,?_⟩;exact KI.put (p:=.one (.ptr d 0)) ⟨w.heap.size,di,rfl⟩
  cases h
 cases h
def MY(P:Program)(st:aD)(t:TypeId)(id off:Nat)(q:aI)(ans:List cf):Stepped:=
 match dK id st.boxes,q.leaves,P.info? t with
 | some ls,some xs,some i=>if xs.length=i.size/\off+xs.length<=ls.length then some (⟨st.env,rX id (vh ls off xs) st.boxes⟩,ans,[]) else none
 | _,_,_=>none
theorem C'{α:Type}{xs ys:List α}{off:Nat}(h:off+ys.length<=xs.length)(i:Nat):
  (xs.take off++ys++xs.drop (off+ys.length))[i]?=if off<=i/\i<off+ys.length then ys[i-off]? else xs[i]?:=by
 rw[mO,qY,nC,Nat.min_eq_left (by omega)];grind
theorem cM.aDW{P:Program}{t:TypeId}{off:Nat}{q:aI}{b:Nat}{v:Value}
  (a6:cM w0 st a w ω τ) (aw:ω b=.box id) (aH:cW (Sat w ω τ) q v) (h:MY P st t id off q ans=some (bG,cv,obs)):
  ∃aN,(Instr.storeAt t (.pointer (some ⟨b,off,none⟩)) v).run P w=.ok () aN/\Rel w0 bG a aN:=by
 unfold MY at h;split at h
 ·rename_i ls xs i e1 e2 ch;split at h
  ·rename_i ai;simp only[aZ,bL]at h;obtain⟨rfl,_,_⟩:=h;obtain⟨ao,oG⟩:=aI.zG e2 aH;obtain⟨dE,arr,ty,eE,hu,bO,e8⟩:=a6.boxes id ls e1;have:=hu b aw;subst this;have fr:=run_storeCells_at P b off ty v.cells.toList 0 arr w bO (by simp;have:=ao.1;have:=e8.1;omega) oG;have hv:lf (Sat w ω τ) (vh ls off xs) (arr.toList.take (off+0)++v.cells.toList++arr.toList.drop (off+0+v.cells.toList.length)).toArray:=by
    have h1:=ao.1;have U:=e8.1;refine⟨?_,fun j l al=>?_⟩
    ·grind[L0]
    rw[TI (by omega)]at al;rw[p6,o6,C' (by simp;omega)];simp only[Ry];by_cases bf:off<=j/\j<off+xs.length
    ·rw[bq bf]at al;rw[bq (by omega)];obtain⟨u,aA,aJ⟩:=ao.2 _ _ al;grind
    rw[bD bf]at al;rw[bD (by omega)];obtain⟨u,aA,aJ⟩:=e8.2 _ _ al;grind
   refine⟨_,?_,ω,τ,a6.aDX e1 aw hv⟩;simp only[Instr.storeAt,Instr.sureAddr,Sem.run_bind,Sem.run_pure,Result.andThen_ok,storeVar,sizeOf,typeInfo,run_program,ch];have dO:¬(v.cells.size≠i.size):=by simp;have:=ao.1;omega
   grind
  cases h
 cases h
end Go.Sx
namespace Go.Sx
open Go.RowKit
variable{w0:eT}{st:aD}{a:Act}{w:World}{ω:Own}{τ:Nat->Nat×Value}
theorem cM.dc{aN:World}{bh:Own}{c3:Nat->Nat×Value}(h:cM w0 st a w ω τ)(f:aG->aG)
  (e8:∀l v,Sat w ω τ l v->Sat aN bh c3 (f l) v) (pr:gZ w0 aN) (rC:pa w0 aN bh)
  (tX:∀id b,ω b=.box id->bh b=.box id/\aN.heap[b]?=w.heap[b]?) (BP:∀id b,bh b=.box id->ω b=.box id) (vy:∀t,dk<=t->c3 t=τ t:=by intros;rfl):cM w0 (st.map f) a aN bh c3 where
 defers:=h.defers
 size:=by simp[aD.map,h.size]
 below:=pr
 owned:=rC
 fixed:=fun t bK=>(vy t bK).trans (h.fixed t bK)
 pinned:=fun id b hi aw=>h.pinned id b hi (BP id b aw)
 env:=by
  intro i q aH;simp only[aD.map]at aH;rw[dI,ca]at aH;obtain⟨gr,bJ,rfl⟩:=aH;obtain⟨v,h1,U⟩:=h.env i gr bJ;exact⟨v,h1,cW.map e8 U⟩
 boxes:=by
  intro id ls al;simp only[aD.map]at al;rw[uK,ca]at al;obtain⟨kg,bJ,rfl⟩:=al;obtain⟨b,arr,ty,aw,hu,bO,ao⟩:=h.boxes id kg bJ;obtain⟨h1,U⟩:=tX id b aw;exact⟨b,arr,ty,h1,fun dE eE=>hu dE (BP id dE eE),U.trans bO,ao.map e8⟩
abbrev io:=List (Nat×(Nat×Nat))
def io.at(s:Nat):io->Option (Nat×Nat)
 | []=>none
 | (i,p)::r=>if i=s then some p else io.at s r
def iX(t:Nat)(ms:io):Tag->Option Tag
 | .free=>some .free
 | .own s=>if s=t then some .free else if (ms.at s).isSome then none else some (.own s)
 | .ro s=>if s=t then some .free else if (ms.at s).isSome then none else some (.ro s)
def qL(t:Nat)(ms:io):dv->dv
 | .tok s q=>if s=t then .bP else match ms.at s with | some p=>.tok t (p::q) | none=>.tok s q
 | o=>o
variable{t:Nat}{ms:io}
theorem Gn{o:dv}{id:Nat}:qL t ms o=.box id<->o=.box id:=by
 cases o with
 | bP=>simp[qL]
 | box i=>simp[qL]
 | tok s q=>
  simp only[qL];split
  ·simp
  ·split<;>simp
theorem Uo{g eN:Tag}{q:List (Nat×Nat)}{o:dv}(h:iX t ms g=some eN)(aC:g.R q o):eN.R q (qL t ms o):=by
 cases g with
 | free=>simp only[iX,aZ]at h;subst h;simp only[Tag.R]at aC ⊢;rw[aC];rfl
 | own s=>
  simp only[Tag.R]at aC;subst aC;simp only[iX]at h;simp only[qL];split at h
  ·simp only[aZ]at h;subst h;rw[bq ‹_›];rfl
  split at h
  ·cases h
  rename_i h1 U;simp only[aZ]at h;subst h;rw[bD h1];cases e:ms.at s with
  | none=>rfl
  | some p=>simp[e]at U
 | ro s=>
  simp only[Tag.R]at aC;simp only[iX]at h;split at h
  ·simp only[aZ]at h;subst h;rcases aC with rfl | ⟨ee,rfl⟩
   ·rfl
   simp only[qL];rw[bq ‹_›];rfl
  split at h
  ·cases h
  rename_i h1 U;simp only[aZ]at h;subst h;rcases aC with rfl | ⟨ee,rfl⟩
  ·exact .inl rfl
  refine .inr ⟨ee,?_⟩;simp only[qL];rw[bD h1];cases e:ms.at s with
  | none=>rfl
  | some p=>simp[e]at U
def qM(w:World)(ω:Own)(t:Nat)(ms:io):Own:=fun b=>if b=w.heap.size then .tok t [] else qL t ms (ω b)
def xB(w:World)(τ:Nat->Nat×Value)(t k n c:Nat):Nat->Nat×Value:=fun s=>if s=t then (k,.slice (some ⟨w.heap.size,0,none⟩) n c) else τ s
def aD.ki(st:aD)(t:Nat)(ms:io):aD:=st.map (aG.cN (iX t ms) fun _=>true)
theorem aAs{w1:World}{k n c:Nat}(jK:t<dk)(bI:ω w.heap.size=.bP)(bO:∀b,b<w.heap.size->w1.heap[b]?=w.heap[b]?):
  mQ w ω τ w1 (qM w ω t ms) (xB w τ t k n c) (iX t ms) (fun _=>true):=by
 refine⟨?_,?_,?_,rfl,fun s ao=>by simp only[xB];rw[bD (by omega)]⟩
 ·intro g eN b q ay aw aH;refine⟨?_,bO b aw⟩;simp only[qM];rw[bD (by omega)];exact Uo ay aH
 ·intro g eN y ay bu;cases g with
  | free=>simp only[iX,aZ]at ay;subst ay;exact trivial
  | own s=>
   simp only[iX]at ay;split at ay
   ·simp only[aZ]at ay;subst ay;exact trivial
   split at ay
   ·cases ay
   simp only[aZ]at ay;subst ay;simp only[Tag.et,xB]at bu ⊢;rw[bD ‹_›];exact bu
  | ro s=>
   simp only[iX]at ay;split at ay
   ·simp only[aZ]at ay;subst ay;exact trivial
   split at ay
   ·cases ay
   simp only[aZ]at ay;subst ay;exact trivial
 intro id b _ aw;simp only[qM];by_cases e:b=w.heap.size
 ·subst e;rw[bI]at aw;cases aw
 rw[bD e,aw];rfl
def aG.jz:aG->Option D
 | .v x=>if x.oneCell' then some (.v x) else none
 | .bg c=>some (.v (.bool c))
 | .J (.own _) k es=>some (.J k es)
 | _=>none
def aG.tok:aG->Option Nat
 | .J (.own s) _ _=>some s
 | _=>none
def Gp(w:World)(ω:Own)(τ:Nat->Nat×Value)(t:Nat)(ms:io)(i j:Nat)(d:D)(u:Value):Prop:=
 ∃l:aG,l.jz=some d/\Sat w ω τ l u/\∀s,l.tok=some s->s≠t/\ms.at s=some (i,j)
theorem Gp.rep{w1:World}{ω:Own}{i j:Nat}{d:D}{u:Value}(h:Gp w ω τ t ms i j d u)(bO:∀b,b<w.heap.size->w1.heap[b]?=w.heap[b]?):
  b3 w1 (qM w ω t ms) (fun q=>(Tag.own t).R ((i,j)::q)) d u:=by
 obtain⟨l,aE,ao,hm⟩:=h;cases l with
 | cp=>cases aE
 | v x=>
  simp only[aG.jz]at aE;split at aE
  ·simp only[aZ]at aE;subst aE;have:u=x:=ao;subst this;exact .v _ _ ‹_›
  cases aE
 | bg c=>
  simp only[aG.jz,aZ]at aE;subst aE;have:u=.bool c:=ao;subst this;exact .v _ _ rfl
 | J g k es=>
  cases g with
  | free=>cases aE
  | ro s=>cases aE
  | own s=>
   simp only[aG.jz,aZ]at aE;subst aE;obtain⟨cZ,sD⟩:=hm s rfl;refine ao.1.frame fun b q aw aH=>⟨?_,bO b aw⟩
   simp only[Tag.R]at aH ⊢;simp only[qM];rw[bD (by omega),aH];simp only[qL];rw[bD cZ,sD]
 | ptr id off=>cases aE
 | ep g k es i j=>cases aE
 | hY=>cases aE
 | fd=>cases aE
 | dC=>cases aE
 | hq=>cases aE
 | aR=>cases aE
 | fP=>cases aE
theorem cM.ki{w1:World}(h:cM w0 st a w ω τ)(t:Nat)(jK:t<dk)(ms:io){k cap:Nat}{es:List (List D)}{arr:Array Value}{ty:TypeId}
  (aw:g' w.heap.size w w1) (hv:w1.heap[w.heap.size]?=some (.cells arr ty (0,0))) (ai:es.length<=cap) (dO:cap*k<=arr.size) (hk:∀e∈es,e.length=k)
  (fA:∀i j d,df es i j=some d->∃u,arr[i*k+j]?=some u/\Gp w ω τ t ms i j d u):
  cM w0 (st.ki t ms) a w1 (qM w ω t ms) (xB w τ t k es.length cap)/\
  Sat w1 (qM w ω t ms) (xB w τ t k es.length cap) (.J (.own t) k es) (.slice (some ⟨w.heap.size,0,none⟩) es.length cap):=by
 have bI:ω w.heap.size=.bP:=h.owned.fresh (fi _);have hblk:=aw.block;have aFT:w.heap.size<w1.heap.size:=(jj.1 hv).1;have px:qM w ω t ms w.heap.size=.tok t []:=by simp[qM]
 have jI:∀b,b≠w.heap.size->qM w ω t ms b=qL t ms (ω b):=fun b aw=>by simp[qM,aw]
 refine⟨h.dc _ (aAs jK bI hblk).sat ?_ ?_ ?_ ?_ (fun s ao=>by simp only[xB];rw[bD (by omega)]),?_,?_⟩
 ·exact h.below.next aw
 ·intro b gH;by_cases e:b=w.heap.size
  ·subst e;exact⟨.inl h.below.size,arr,ty,hv⟩
  rw[jI b e]at gH;have U:ω b≠.bP:=fun e'=>by rw[e']at gH;exact gH rfl
  obtain⟨aA,kt,kJ,aJ⟩:=h.owned b U;exact⟨aA,kt,kJ,(hblk b (h.owned.lt U)).trans aJ⟩
 ·intro id b gH;have bR:=h.owned.lt (b:=b) (by simp[gH]);rw[jI b (by omega),gH];exact⟨rfl,hblk b bR⟩
 ·intro id b gH;by_cases e:b=w.heap.size
  ·subst e;rw[px]at gH;cases gH
  rw[jI b e]at gH;exact Gn.1 gH
 ·have xt:∀i j d,df es i j=some d->arr[0+i*k+j]?=some (arr.getD (i*k+j) undef)/\Gp w ω τ t ms i j d (arr.getD (i*k+j) undef):=by
   intro i j d aE;obtain⟨u,h1,U⟩:=fA i j d aE;have e:arr.getD (i*k+j) undef=u:=by simp[fc,h1]
   rw[e];exact⟨by rw[dX];exact h1,U⟩
  exact .row _ k es w.heap.size 0 cap arr ty (0,0) (fun i j=>arr.getD (i*k+j) undef) hv px ai (by omega) hk (fun i j d aE=>(xt i j d aE).1) (fun i j d aE=>(xt i j d aE).2.rep hblk)
 simp[Tag.et,xB]
def Gq(P:Program)(st:aD)(d:Nat)(t:TypeId)(p q:aI)(ans:List cf):Stepped:=
 match P.underlying t with
 | some (.slice e)=>
  match P.info? e,p.int,q.int with
  | some i,some (_,l),some (_,c)=>
   match i.zero with
   | some z=>
    if i.size=z.cells.size/\0<i.size/\z.cells.all (·.oneCell')=true/\d<dk then
     some (⟨(st.ki d []).env.set d (.one (.J (.own d) i.size (List.replicate l.toNat (z.cells.toList.map .v)))),(st.ki d []).boxes⟩,ans,[0<=l,l<=c,(i.bytes:Int)*c<=281474976710656,c<=9223372036854775807])
    else none
   | none=>none
  | _,_,_=>none
 | _=>none
theorem Up(z:Array Value)(n i j:Nat)(hi:i<n)(bf:j<z.size):(madeCells z (n*z.size))[i*z.size+j]?=z[j]?:=by
 have bR:i*z.size+j<n*z.size:=by
  have:(i+1)*z.size<=n*z.size:=hI _ hi;rw[hK]at this;omega
 have e:(i*z.size+j) % z.size=j:=by rw[Nat.add_comm,Nat.add_mul_mod_self_right];exact ER bf
 simp[madeCells,bR,e,getElem!_pos,bf]
theorem aAt{n:Nat}{e:List D}{i j:Nat}{d:D}(h:df (List.replicate n e) i j=some d):i<n/\e[j]?=some d:=by
 unfold df at h;rw[EO]at h;split at h
 ·exact⟨‹_›,h⟩
 simp at h
theorem cM.make{P:Program}{bG:aD}{d:Nat}{t:TypeId}{p q:aI}{u v:Value}{ans cv:List cf}{obs:List Prop}
  (a6:cM w0 st a w ω τ) (hp:cW (Sat w ω τ) p u) (aH:cW (Sat w ω τ) q v) (h:Gq P st d t p q ans=some (bG,cv,obs)) (a8:cO obs):
  ∃z aN,(Instr.makeSlice t u v).run P w=.ok z aN/\Rel w0 bG (a.put (some d) z) aN:=by
 unfold Gq at h;split at h
 ·rename_i e hu;split at h
  ·rename_i i cA l bm c hi e1 e2;split at h
   ·rename_i z bb;split at h
    ·rename_i ai;obtain⟨mY,mr,l4,tY⟩:=ai;simp only[aZ,bL]at h;obtain⟨rfl,_,rfl⟩:=h;obtain⟨cy,ci,cI,fs,_⟩:=a8;rw[aI.pA e1 hp,aI.pA e2 aH];have fU:=run_make (P:=P) w t e i z hu hi bb cA bm l c cy ci cI fs;have hv:(w.alloc (.cells (madeCells z.cells (c.toNat*i.size)) e)).heap[w.heap.size]?=some (.cells (madeCells z.cells (c.toNat*i.size)) e (0,0)):=oP _ _;have dO:(madeCells z.cells (c.toNat*i.size)).size=c.toNat*i.size:=by simp[madeCells]
     have xh:=a6.ki d tY [] (k:=i.size) (cap:=c.toNat) (es:=List.replicate l.toNat (z.cells.toList.map .v)) (w1:=w.alloc (.cells (madeCells z.cells (c.toNat*i.size)) e))
      ((g'.refl _ _).alloc (fi _) _) hv (by simp;omega) (by omega) (fun e' he=>by rw[List.eq_of_mem_replicate he];simp[mY]) (fun x j qd aE=>by
       obtain⟨ag,aE⟩:=aAt aE;rw[dI,ca]at aE;obtain⟨u5,ky,rfl⟩:=aE;have bf:j<z.cells.size:=by
        have:=(ga.1 ky).1;simpa using this
       refine⟨u5,?_,.v u5,?_,rfl,fun s ao=>by cases ao⟩
       ·rw[mY,Up z.cells c.toNat x j (by omega) bf];simpa using ky
       have:u5.oneCell'=true:=by
        have h1:=Array.all_eq_true'.1 l4;exact h1 u5 (by simpa using gj ky)
       simp[aG.jz,this])
     simp only[List.length_replicate]at xh;exact⟨_,_,fU,_,_,xh.1.put (p:=.one (.J (.own d) i.size (List.replicate l.toNat (z.cells.toList.map .v)))) xh.2⟩
    cases h
   cases h
  cases h
 cases h
end Go.Sx
namespace Go.Sx
open Go.RowKit
def oQ(k:Nat):Nat->List aG->List (List aG)
 | 0,_=>[]
 | n+1,ls=>ls.take k::oQ k n (ls.drop k)
theorem MZ(k:Nat):∀(n:Nat) (ls:List aG) (i:Nat),(oQ k n ls)[i]?=if i<n then some ((ls.drop (i*k)).take k) else none
 | 0,ls,i=>by simp[oQ]
 | n+1,ls,0=>by simp[oQ]
 | n+1,ls,i+1=>by
  simp only[oQ,p8,MZ k n];by_cases h:i<n
  ·rw[bq h,bq (by omega),List.drop_drop]
   congr 3
   rw[hK];omega
  rw[bD h,bD (by omega)]
theorem Uq(k:Nat):∀(n:Nat) (ls:List aG),(oQ k n ls).length=n
 | 0,_=>rfl
 | n+1,ls=>by simp[oQ,Uq k n]
def ma(i:Nat):Nat->List aG->io
 | _,[]=>[]
 | j,l::ls=>match l.tok with
  | some s=>(s,(i,j))::ma i (j+1) ls
  | none=>ma i (j+1) ls
def tf:Nat->List (List aG)->io
 | _,[]=>[]
 | i,e::es=>ma i 0 e++tf (i+1) es
def AA(t:Nat)(ms:io):Bool:=decide (t<dk)&&ms.all fun x=>x.1≠t&&(match ms.at x.1 with | some p=>p.1==x.2.1&&p.2==x.2.2 | none=>false)
theorem M0(i:Nat):∀(ls:List aG) (j0 j:Nat) (l:aG) (s:Nat),ls[j]?=some l->l.tok=some s->(s,(i,j0+j))∈ma i j0 ls
 | [],_,_,_,_,h,_=>by simp at h
 | dn::ls,j0,0,l,s,h,ao=>by
  simp at h;subst h;simp only[ma,ao];exact h2
 | dn::ls,j0,j+1,l,s,h,ao=>by
  have:=M0 i ls (j0+1) j l s (by simpa using h) ao;rw[show j0+1+j=j0+(j+1) by omega]at this;simp only[ma];split
  ·exact gE _ this
  exact this
theorem Ur:∀(es:List (List aG)) (i0 i j:Nat) (e:List aG) (l:aG) (s:Nat),es[i]?=some e->e[j]?=some l->l.tok=some s->(s,(i0+i,j))∈tf i0 es
 | [],_,_,_,_,_,_,h,_,_=>by simp at h
 | bE::es,i0,0,j,e,l,s,h,al,ao=>by
  simp at h;subst h;simp only[tf];have:=M0 i0 bE 0 j l s al ao;rw[dX]at this;exact hJ _ this
 | bE::es,i0,i+1,j,e,l,s,h,al,ao=>by
  have:=Ur es (i0+1) i j e l s (by simpa using h) al ao;rw[show i0+1+i=i0+(i+1) by omega]at this;simp only[tf];exact iN _ this
variable{ms:io}
theorem aAu{t:Nat}(h:AA t ms=true):t<dk:=by
 unfold AA at h;rw[cu,cj]at h;exact h.1
theorem aAv{t:Nat}(h:AA t ms=true){s:Nat}{p:Nat×Nat}(hm:(s,p)∈ms):s≠t/\ms.at s=some p:=by
 unfold AA at h;rw[cu]at h;have:=gn.1 h.2 _ hm;simp only[cu,cj]at this;refine⟨this.1,?_⟩;have U:=this.2;split at U
 ·rename_i rR e;simp only[cu,kq]at U;rw[e]
  congr 1
  exact Prod.ext U.1 U.2
 cases U
def Da(P:Program)(st:aD)(d:Nat)(t:TypeId)(len:Nat)(parts:List (Nat×Operand))(ans:List cf):Stepped:=
 match P.underlying t with
 | some (.slice e)=>
  match P.info? e with
  | some i=>
   match i.zero with
   | some z=>
    if i.size=z.cells.size/\0<i.size/\len*i.size<=16777216 then
     match sB (fun x=>some (x*i.size,i.size)) ((List.replicate len (z.cells.toList.map aG.v)).flatten) (parts.map fun x=>(x.1,st.bt x.2)) with
     | some r=>
      let ls:=oQ i.size len r
      match ls.mapM (fun x=>x.mapM aG.jz) with
      | some es=>if AA d (tf 0 ls) then
        some (⟨(st.ki d (tf 0 ls)).env.set d (.one (.J (.own d) i.size es)),(st.ki d (tf 0 ls)).boxes⟩,ans,[]) else none
      | none=>none
     | none=>none
    else none
   | none=>none
  | none=>none
 | _=>none
def E'(P:Program)(st:aD)(d:Nat)(t:TypeId)(len:Nat)(parts:List (Nat×Operand)):Option (Nat×List (List D)×io):=
 match P.underlying t with
 | some (.slice e)=>
  match P.info? e with
  | some i=>
   match i.zero with
   | some z=>
    if i.size=z.cells.size/\0<i.size/\len*i.size<=16777216 then
     match sB (fun x=>some (x*i.size,i.size)) ((List.replicate len (z.cells.toList.map aG.v)).flatten) (parts.map fun x=>(x.1,st.bt x.2)) with
     | some r=>
      match (oQ i.size len r).mapM (fun x=>x.mapM aG.jz) with
      | some es=>if AA d (tf 0 (oQ i.size len r)) then some (i.size,es,tf 0 (oQ i.size len r)) else none
      | none=>none
     | none=>none
    else none
   | none=>none
  | none=>none
 | _=>none
theorem aAw{P:Program}{st:aD}{d:Nat}{t:TypeId}{len:Nat}{parts:List (Nat×Operand)}{k:Nat}{es:List (List D)}(h:E' P st d t len parts=some (k,es,ms))(ans:List cf):
  Da P st d t len parts ans=some (⟨(st.ki d ms).env.set d (.one (.J (.own d) k es)),(st.ki d ms).boxes⟩,ans,[]):=by
 unfold E' at h;unfold Da;split at h
 ·rename_i e h1
  try rw[h1]
  split at h
  ·rename_i i U
   try simp only[U]
   split at h
   ·rename_i z aA
    try simp only[aA]
    split at h
    ·rename_i ai
     try rw[bq ai]
     split at h
     ·rename_i r aJ
      try simp only[aJ]
      split at h
      ·rename_i cC a7
       try simp only[a7]
       split at h
       ·rename_i bw;simp only[aZ,bL]at h;obtain⟨rfl,rfl,rfl⟩:=h
        try rw[bq bw]
       cases h
      cases h
     cases h
    cases h
   cases h
  cases h
 cases h
theorem oR{α β:Type}{f:α->Option β}:∀{xs:List α} {ys:List β},xs.mapM f=some ys->ys.length=xs.length/\∀(i:Nat) (y:β),ys[i]?=some y->∃x,xs[i]?=some x/\f x=some y
 | [],ys,h=>by simp at h;subst h;exact⟨rfl,fun i y bu=>by simp at bu⟩
 | x::xs,ys,h=>by
  rw[Bc]at h;cases e:f x with
  | none=>simp[e]at h
  | some mM=>
   cases e2:xs.mapM f with
   | none=>simp[e,e2]at h
   | some Jl=>
    simp[e,e2]at h;subst h;obtain⟨h1,U⟩:=oR e2;refine⟨by simp[h1],fun i y bu=>?_⟩;cases i with
    | zero=>simp at bu;subst bu;exact⟨x,rfl,e⟩
    | succ i=>exact U i y (by simpa using bu)
theorem Us{α:Type}(e:List α):∀(n i j:Nat),i<n->j<e.length->((List.replicate n e).flatten)[i*e.length+j]?=e[j]?
 | 0,i,j,hi,_=>by omega
 | n+1,0,j,_,bf=>by
  rw[List.replicate_succ,List.flatten_cons,qY,Nat.zero_mul,dX,bq bf]
 | n+1,i+1,j,hi,bf=>by
  rw[List.replicate_succ,List.flatten_cons,qY,bD (by rw[hK];omega)];have:=Us e n i j (by omega) bf;rw[<-this]
  congr 1
  rw[hK];omega
theorem cM.buildSlice{P:Program}{w0:eT}{st bG:aD}{a:Act}{w:World}{ω:Own}{τ:Nat->Nat×Value}{d:Nat}{t:TypeId}{len:Nat}{parts:Array (Nat×Operand)}{ans cv:List cf}{obs:List Prop}
  (a6:cM w0 st a w ω τ) (h:Da P st d t len parts.toList ans=some (bG,cv,obs)):
  ∃z aN,(Instr.buildSlice t len (parts.map fun (i,x)=>(i,a.eval x))).run P w=.ok z aN/\Rel w0 bG (a.put (some d) z) aN:=by
 unfold Da at h;split at h
 ·rename_i e hu;split at h
  ·rename_i i hi;split at h
   ·rename_i z bb;split at h
    ·rename_i ai;obtain⟨mY,mr,l4⟩:=ai;split at h
     ·rename_i r aC;simp only at h;split at h
      ·rename_i es FB;split at h
       ·rename_i SC;simp only[aZ,bL]at h;obtain⟨rfl,_,_⟩:=h;have nd:(z.cells.toList.map aG.v).length=i.size:=by simp[mY]
        have aFE:((List.replicate len (z.cells.toList.map aG.v)).flatten).length=len*i.size:=by simp[mY]
        have FV:lf (Sat w ω τ) ((List.replicate len (z.cells.toList.map aG.v)).flatten) (madeCells z.cells (len*i.size)):=by
         refine⟨by simp[madeCells,mY],fun x l al=>?_⟩;have bR:x<len*i.size:=by
          have:=(ga.1 al).1;omega
         have ag:x=(x / i.size)*i.size+x % i.size:=by rw[Nat.mul_comm];exact (Nat.div_add_mod x i.size).symm
         have aH:x / i.size<len:=Nat.div_lt_of_lt_mul (by rw[Nat.mul_comm];exact bR);have hm:x % i.size<i.size:=Nat.mod_lt _ mr;have h1:=Us (z.cells.toList.map aG.v) len (x / i.size) (x % i.size) aH (by omega);rw[nd,<-ag,al]at h1;have U:=h1.symm;rw[dI,ca]at U;obtain⟨u,ky,rfl⟩:=U;refine⟨u,?_,rfl⟩;have aA:=Up z.cells len (x / i.size) (x % i.size) aH (by omega);rw[<-mY,<-ag]at aA;rw[aA];simpa using ky
        obtain⟨out,KG,FJ⟩:=L1 (vals:=parts.toList.map fun x=>(x.1,a.eval x.2)) (by simp) (fun j gk p bf=>by
         rw[dI,ca]at bf;obtain⟨⟨i2,x⟩,ag,e⟩:=bf;simp only[bL]at e;obtain⟨rfl,rfl⟩:=e;exact⟨a.eval x,by simp only[dI,ag,sk],a6.bt x⟩) aC FV
        obtain⟨jm,c4⟩:=oR FB;have hlen:es.length=len:=by rw[jm,Uq]
        have adv:∀x j qd,df es x j=some qd->∃l,x<len/\j<i.size/\r[x*i.size+j]?=some l/\l.jz=some qd/\∃xd,(oQ i.size len r)[x]?=some xd/\xd[j]?=some l:=by
         intro x j qd aE;unfold df at aE;cases ag:es[x]? with
         | none=>simp[ag]at aE
         | some e'=>
          rw[ag,q0]at aE;obtain⟨xd,h1,U⟩:=c4 x e' ag;obtain⟨aA,aJ⟩:=oR U;obtain⟨l,a7,bw⟩:=aJ j qd aE;have xf:=h1;rw[MZ]at h1;split at h1
          ·simp only[aZ]at h1;subst h1;have adg:=a7;rw[jZ]at a7;split at a7
           ·rw[lx]at a7;exact⟨l,‹_›,‹_›,a7,bw,_,xf,adg⟩
           cases a7
          cases h1
        have SO:r.length=len*i.size:=by
         have:=FJ.1;have U:out.size=(madeCells z.cells (len*i.size)).size:=by
          have:=FJ.1;have aJ:∀(dn:List (Nat×aI)) (kg gw:List aG),sB (fun x=>some (x*i.size,i.size)) kg dn=some gw->gw.length=kg.length:=by
           intro dn;induction dn with
           | nil=>intro kg gw h;simp[sB]at h;rw[h]
           | cons x dn eA=>
            intro kg gw h;obtain⟨gY,gN⟩:=x;simp only[sB]at h;split at h
            ·split at h
             ·rename_i bO;rw[eA _ _ h,L0 (by omega)]
             cases h
            cases h
          have:=aJ _ _ _ aC;simp[madeCells];omega
         simp[madeCells]at U;omega
        have hv:(w.alloc (.cells out e)).heap[w.heap.size]?=some (.cells out e (0,0)):=oP _ _;have xh:=a6.ki d (aAu SC) (tf 0 (oQ i.size len r)) (k:=i.size) (cap:=len) (es:=es) (w1:=w.alloc (.cells out e))
         ((g'.refl _ _).alloc (fi _) _) hv (by omega) (by rw[FJ.1,SO];exact fi _)
         (fun e' he=>by
          obtain⟨x,ag⟩:=ob.1 he;obtain⟨xd,h1,U⟩:=c4 x e' ag;obtain⟨aA,_⟩:=oR U;rw[aA];rw[MZ]at h1;split at h1
          ·simp only[aZ]at h1;subst h1;have:(x+1)*i.size<=len*i.size:=hI _ (by omega);rw[hK]at this;simp;omega
          cases h1)
         (fun x j qd aE=>by
          obtain⟨l,h1,U,aA,aJ,xd,a7,bw⟩:=adv x j qd aE;obtain⟨u,b1,dA⟩:=FJ.2 _ _ aA;refine⟨u,b1,l,aJ,dA,fun s ao=>?_⟩;have:=Ur (oQ i.size len r) 0 x j xd l s a7 bw ao;rw[dX]at this;exact aAv SC this)
        rw[hlen]at xh;refine⟨_,_,?_,_,_,xh.1.put (p:=.one (.J (.own d) i.size es)) xh.2⟩;have sS:((Array.range (len*i.size)).map (fun x=>(if len*i.size=0 then (#[]:Array Value) else z.cells)[x % (if len*i.size=0 then (#[]:Array Value) else z.cells).size]!))=madeCells z.cells (len*i.size):=by
         unfold madeCells;by_cases bJ:len*i.size=0
         ·simp[bJ]
         simp[bJ]
        have e:(Array.map (fun (x:Nat×Operand)=>(x.1,a.eval x.2)) parts).toList=parts.toList.map fun x=>(x.1,a.eval x.2):=by simp
        have aeh:¬(len*i.size>2 ^ 24):=by have:(2:Nat) ^ 24=16777216:=(by decide);omega
        simp only[Instr.buildSlice,Sem.run_bind,run_underlying hu,Result.andThen_ok,sizeOf,typeInfo,run_program,hi,Sem.run_pure];rw[bD aeh];by_cases bJ:len*i.size=0
        ·simp only[bJ,gy]at sS ⊢;simp only[Sem.run_pure,Sem.run_bind,Result.andThen_ok,e];rw[bJ]at KG;rw[sS,KG];simp[newRow]
        simp only[bJ,mh]at sS ⊢;simp only[zeroValue,typeInfo,Sem.run_bind,run_program,Result.andThen_ok,hi,bb,Sem.run_pure,e];rw[sS,KG];simp[newRow]
       cases h
      cases h
     cases h
    cases h
   cases h
  cases h
 cases h
end Go.Sx
namespace Go.Sx
open Go.RowKit
variable{w:World}{ω bh:Own}{k n:Nat}{es:List (List D)}
theorem b3.aaA{aN:World}{R jE:List (Nat×Nat)->dv->Prop}{b off cap:Nat}(h:b3 w ω R (.J k es) (.slice (some ⟨b,off,none⟩) n cap))
  {arr cm:Array Value} {ty:TypeId} {cY:Nat×Nat} (aw:w.heap[b]?=some (.cells arr ty cY)) (eE:aN.heap[b]?=some (.cells cm ty cY)) (dO:cm.size=arr.size)
  (adk:∀x,x<off+n*k->cm[x]?=arr[x]?) (Fq:∀o,o=ω b->R [] o->jE [] (bh b)) (oF:∀c p q,c<w.heap.size->R (p::q) (ω c)->jE (p::q) (bh c)/\aN.heap[c]?=w.heap[c]?):
  b3 aN bh jE (.J k es) (.slice (some ⟨b,off,none⟩) n cap):=by
 generalize bu:Value.slice (some ⟨b,off,none⟩) n cap=y at h;cases h with
 | nil=>cases bu;exact .nil _ _ _
 | row R k es fT rP q9 kt kJ JR us hS ef ai ao hk hu aE=>
  simp only[Value.slice.injEq,aZ,Addr.mk.injEq]at bu;obtain⟨⟨rfl,rfl,_⟩,rfl,rfl⟩:=bu;rw[aw]at hS;simp only[aZ,Obj.cells.injEq]at hS;obtain⟨rfl,rfl,rfl⟩:=hS;refine .row jE k es b off cap cm ty cY us eE (Fq _ rfl ef) ai (by omega) hk (fun i j d eQ=>?_) (fun i j d eQ=>(aE i j d eQ).frame fun c q ps aH=>oF c _ _ ps aH);rw[adk,hu i j d eQ];have oD:i<es.length/\j<k:=by
   unfold df at eQ;grind
  have:(i+1)*k<=es.length*k:=hI _ oD.1;grind
variable{i j:Nat}
theorem uL{d:D}(hk:∀e∈es,e.length=k)(h:df es i j=some d):i<es.length/\j<k:=by
 unfold df at h;grind
variable{bZ:List (List D)}
theorem Db:df (es++bZ) i j=if i<es.length then df es i j else df bZ (i-es.length) j:=by
 unfold df;grind
theorem Ut(hk:∀e∈es,e.length=k)(hi:i<es.length)(bf:j<k):∃d,df es i j=some d:=by
 simp_all[p9,df]
def kk(t:Nat)(ed:Option Nat)(n:Nat):dv->dv
 | .tok s q=>if ed=some s then (match q with | []=>.bP | p::ee=>.tok t ((n+p.1,p.2)::ee)) else .tok s q
 | o=>o
def iG(t:Nat)(ed:Option Nat):Tag->Option Tag
 | .free=>some .free
 | .own s=>if s=t then some (.ro t) else if ed=some s then none else some (.own s)
 | .ro s=>if s=t then none else if ed=some s then none else some (.ro s)
structure Src (P:Program) (w:World) (ω:Own) (k:Nat) (bZ:List (List D)) (ed:Option Nat) (y:Value) (news:List Value):Prop where
 len:news.length=bZ.length*k
 rows:∀e∈bZ,e.length=k
 one:∀u∈news,u.oneCell'=true
 cell:∀i j d,df bZ i j=some d->∃u,news[i*k+j]?=some u/\((∃x,d=.v x/\u=x)\/∃s,ed=some s/\b3 w ω (fun q=>(Tag.own s).R ((i,j)::q)) d u)
 shape:((∃a,y=.slice a 0 0)/\bZ=[])\/∃b o c,y=.slice (some ⟨b,o,none⟩) bZ.length c/\∀j v,news[j]?=some v->w.cell? ((⟨b,o,none⟩:Addr).add j)=some v
variable{t:Nat}{ed:Option Nat}
theorem M1{o:dv}{id:Nat}:kk t ed n o=.box id<->o=.box id:=by
 cases o with
 | bP=>simp[kk]
 | box i=>simp[kk]
 | tok s q=>
  simp only[kk];grind
theorem xC{s:Nat}{q:List (Nat×Nat)}(h:ed≠some s):kk t ed n (.tok s q)=.tok s q:=by simp[kk,h]
theorem uM{w aN:World}{g eN:Tag}(lk:ed≠some t)(ay:iG t ed g=some eN)(cZ:g≠.own t)
  (di:∀c,c<w.heap.size->ω c≠.tok t []->bh c=kk t ed n (ω c)/\aN.heap[c]?=w.heap[c]?):
  ∀c q,c<w.heap.size->g.R q (ω c)->eN.R q (bh c)/\aN.heap[c]?=w.heap[c]?:=by
 intro c q ai aC;cases g with
 | free=>
  simp only[iG,aZ]at ay;subst ay;simp only[Tag.R]at aC;obtain⟨h1,U⟩:=di c ai (by rw[aC];simp);rw[h1,aC];exact⟨rfl,U⟩
 | own s=>
  simp only[iG]at ay;have ao:s≠t:=fun e=>cZ (by rw[e])
  rw[bD ao]at ay;split at ay
  ·cases ay
  rename_i hm;simp only[aZ]at ay;subst ay;simp_all[Tag.R,xC]
 | ro s=>
  simp only[iG]at ay;split at ay
  ·cases ay
  rename_i ao;split at ay
  ·cases ay
  rename_i hm;simp only[aZ]at ay;subst ay;simp only[Tag.R]at aC;rcases aC with aC | ⟨ee,aC⟩
  ·obtain⟨h1,U⟩:=di c ai (by rw[aC];simp);rw[h1,aC];exact⟨.inl rfl,U⟩
  obtain⟨h1,U⟩:=di c ai (by grind);rw[h1,aC,xC hm];exact⟨.inr ⟨ee,rfl⟩,U⟩
def gW(τ:Nat->Nat×Value)(t k:Nat)(z:Value):Nat->Nat×Value:=fun s=>if s=t then (k,z) else τ s
variable{τ:Nat->Nat×Value}
theorem Gr{k:Nat}{z:Value}{g eN:Tag}{y:Nat×Value}(ay:iG t ed g=some eN)(bu:g.et τ y):eN.et (gW τ t k z) y:=by
 cases g with
 | free=>simp only[iG,aZ]at ay;subst ay;exact trivial
 | own s=>
  simp only[iG]at ay;split at ay
  ·simp only[aZ]at ay;subst ay;exact trivial
  split at ay
  ·cases ay
  simp only[aZ]at ay;subst ay;simp_all[Tag.et,gW,bD]
 | ro s=>
  simp only[iG]at ay;split at ay
  ·cases ay
  split at ay
  ·cases ay
  simp only[aZ]at ay;subst ay;exact trivial
theorem Jz{aN:World}{z:Value}(jK:t<dk)(lk:ed≠some t)
  (di:∀c,c<w.heap.size->ω c≠.tok t []->bh c=kk t ed n (ω c)/\aN.heap[c]?=w.heap[c]?)
  (tX:∀id b,ω b=.box id->bh b=.box id)
  (lK:∀es y,b3 w ω (Tag.own t).R (.J (τ t).1 es) y->y=(τ t).2->b3 aN bh (Tag.ro t).R (.J (τ t).1 es) y):
  ∀l v,Sat w ω τ l v->Sat aN bh (gW τ t k z) (l.cN (iG t ed) fun _=>true) v:=by
 intro l v ao;cases l with
 | cp=>exact trivial
 | v x=>exact ao
 | bg c=>exact ao
 | ptr id off=>
  simp only[aG.cN,gy];obtain⟨b,aw,e⟩:=ao;exact⟨b,tX id b aw,e⟩
 | fP s vs=>
  simp only[aG.cN];split
  ·rename_i u1 ay;split
   ·rename_i KP;subst KP;have cZ:Tag.own u1≠.own t:=by
     grind[Tag.own.injEq,iG]
    obtain⟨b,ty,arr,e,a7,aA,aW,bF⟩:=ao;have bR:b<w.heap.size:=(jj.1 aA).1;have hk:=uM (w:=w) (aN:=aN) lk ay cZ di b [] bR a7;refine⟨b,ty,arr,e,hk.1,hk.2.trans aA,Gf (fun c u ai=>?_) aW bF⟩;cases c with
    | cp=>exact trivial
    | v x=>exact ai
    | J g ck es=>
     simp only[fq.cN];cases ay:iG t ed g with
     | none=>exact trivial
     | some eN=>
      by_cases cZ:g=.own t
      ·subst cZ;simp only[iG,gy,aZ]at ay;subst ay;obtain⟨h1,U⟩:=ai;simp only[Tag.et]at U;have e1:(τ t).1=ck:=by rw[U]
       have e2:(τ t).2=u:=by rw[U]
       exact⟨by grind,aa⟩
      exact⟨ai.1.frame fun c q ai aH=>uM lk ay cZ di c q ai aH,Gr ay ai.2⟩
   exact trivial
  exact trivial
 | aR s i j bm es m=>
  simp only[aG.cN];split
  ·rename_i u1 ay;split
   ·rename_i KP;subst KP;have cZ:Tag.own u1≠.own t:=by
     grind[Tag.own.injEq,iG]
    obtain⟨u,hu,h1,hm⟩:=ao;refine⟨u,hu,h1.frame fun c q ai aH=>uM lk ay cZ di c _ ai aH,fun bO=>?_⟩;obtain⟨kT,b,off,len,cap,arr,ty,cY,U,a7,aA,aJ⟩:=hm bO;have bR:b<w.heap.size:=(jj.1 aA).1;have hk:=uM (w:=w) (aN:=aN) lk ay cZ di b [] bR a7;exact⟨kT,b,off,len,cap,arr,ty,cY,Gr (k:=k) (z:=z) ay U,hk.1,hk.2.trans aA,aJ⟩
   exact trivial
  exact trivial
 | hq f ids=>
  simp only[aG.cN];split
  ·obtain⟨bs,e,aW,hi⟩:=ao;refine⟨bs,e,aW,fun i id hB=>?_⟩;grind
  grind
 | hY ds off=>
  obtain⟨b,e,aC⟩:=ao;exact⟨b,e,aC.frame fun c q ai aH=>uM (g:=.free) (eN:=.free) lk rfl (by simp) di c q ai aH⟩
 | fd d=>exact b3.frame ao fun c q ai aH=>uM (g:=.free) (eN:=.free) lk rfl (by simp) di c q ai aH
 | dC t0 dw dT=>exact⟨b3.frame ao.1 fun c q ai aH=>uM (g:=.free) (eN:=.free) lk rfl (by simp) di c q ai aH,fun bK=>(show gW τ t k z t0=τ t0 by simp only[gW];grind).trans (ao.2 bK)⟩
 | J g ck es=>
  simp only[aG.cN];cases ay:iG t ed g with
  | none=>exact trivial
  | some eN=>
   by_cases cZ:g=.own t
   ·subst cZ;simp only[iG,gy,aZ]at ay;subst ay;obtain⟨h1,U⟩:=ao;simp only[Tag.et]at U;have e1:(τ t).1=ck:=by rw[U]
    have e2:(τ t).2=v:=by rw[U]
    exact⟨by grind,aa⟩
   exact⟨ao.1.frame fun c q ai aH=>uM lk ay cZ di c q ai aH,Gr ay ao.2⟩
 | ep g ck es i j=>
  simp only[aG.cN];cases ay:iG t ed g with
  | none=>exact trivial
  | some eN=>
   obtain⟨b,off,cap,e,hi,aC,bO⟩:=ao;by_cases cZ:g=.own t
   ·subst cZ;simp only[iG,gy,aZ]at ay;subst ay;simp only[Tag.et]at bO;have e1:(τ t).1=ck:=by rw[bO]
    have e2:(τ t).2=Value.slice (some ⟨b,off,none⟩) es.length cap:=by rw[bO]
    exact⟨b,off,cap,e,hi,by grind,aa⟩
   exact⟨b,off,cap,e,hi,aC.frame fun c q ai aH=>uM lk ay cZ di c q ai aH,Gr ay bO⟩
def aD.y5(st:aD)(t:Nat)(ed:Option Nat):aD:=st.map (aG.cN (iG t ed) fun _=>true)
variable{y:Value}
theorem Uu{P:Program}{t ty e:TypeId}{i:TypeInfo}(bK:P.underlying t=some (.slice e))(hi:P.info? e=some i)(w:World){e4:Value}
  (bu:∃a n c,y=.slice a n c/\n<=c) (kY:∃a c,e4=.slice a 0 c):
  (Builtin.append_ #[t,t] ty #[y,e4]).run P w=.ok y w:=by
 obtain⟨a,n,c,rfl,aW⟩:=bu;obtain⟨a2,c2,rfl⟩:=kY;cases a<;>cases a2<;>
  simp[Builtin.append_,run_underlying bK,sizeOf,typeInfo,hi,Builtin.lenOf,Builtin.firstCells,loadCells,loadCellsFrom,storeCells, *]
theorem Gs{P:Program}{t ty e:TypeId}{i:TypeInfo}(bK:P.underlying t=some (.slice e))(hi:P.info? e=some i)(w:World)
  (b off n cap:Nat) (arr:Array Value) (jB:TypeId) (ay:w.heap[b]?=some (.cells arr jB (0,0)))
  (cw:Addr) (m c:Nat) (news:List Value) (al:news.length=m*i.size) (ka:∀j u,news[j]?=some u->w.cell? (cw.add j)=some u) (h1:∀u∈news,u.oneCell'=true)
  (nc:n+m<=cap) (eo:off+n*i.size+news.length<=arr.size):
  (Builtin.append_ #[t,t] ty #[.slice (some ⟨b,off,none⟩) n cap,.slice (some cw) m c]).run P w=
   .ok (.slice (some ⟨b,off,none⟩) (n+m) cap) (w.setRow b (arr.toList.take (off+n*i.size)++news++arr.toList.drop (off+n*i.size+news.length)).toArray):=by
 have bI:=run_firstCells_some (P:=P) w i.size m cw m c news al ka;have fr:=run_storeCells_at P b (off+n*i.size) jB news 0 arr w ay (by grind) h1;simp only[o6]at fr;simp[Builtin.append_,run_underlying bK,sizeOf,typeInfo,hi,Builtin.lenOf,nc,bI,rU,fr]
theorem Src.RQ{P:Program}{aN:World}{bh:Own}{n:Nat}{news:List Value}(h:Src P w ω k bZ ed y news)(lk:ed≠some t)
  (di:∀c,c<w.heap.size->ω c≠.tok t []->bh c=kk t ed n (ω c)/\aN.heap[c]?=w.heap[c]?) {i j:Nat} {d:D} (aE:df bZ i j=some d):
  ∃u,news[i*k+j]?=some u/\b3 aN bh (fun q=>(Tag.own t).R ((n+i,j)::q)) d u:=by
 obtain⟨u,h1,U⟩:=h.cell i j d aE;refine⟨u,h1,?_⟩;rcases U with⟨x,rfl,rfl⟩ | ⟨s,ao,aC⟩
 ·exact .v _ _ (h.one _ (gj h1))
 refine aC.frame fun c q ai aH=>?_
 grind[Tag.R,kk]
theorem cM.append{P:Program}{w0:eT}{st:aD}{a:Act}(a6:cM w0 st a w ω τ){e4:Value}{news:List Value}
  (hp:Sat w ω τ (.J (.own t) k es) y) (jJ:Src P w ω k bZ ed e4 news) (lk:ed≠some t) {ty iM e:TypeId} {i:TypeInfo} {z:Value}
  (bK:P.underlying iM=some (.slice e)) (hi:P.info? e=some i) (bb:i.zero=some z) (hk:i.size=k) (nS:z.cells.size=k)
  (hs:(es.length+bZ.length)*i.bytes<=140737488355328) (hS:es.length+bZ.length<=9223372036854775807) (jK:t<dk):
  ∃r aN bh,(Builtin.append_ #[iM,iM] ty #[y,e4]).run P w=.ok r aN/\cM w0 (st.y5 t ed) a aN bh (gW τ t k r)/\Sat aN bh (gW τ t k r) (.J (.own t) k (es++bZ)) r:=by
 subst hk;obtain⟨aC,bO⟩:=hp;simp only[Tag.et]at bO;have e1:(τ t).1=i.size:=by rw[bO]
 have e2:(τ t).2=y:=by rw[bO]
 have Ko:∀r:Value,∀s,dk<=s->gW τ t i.size r s=τ s:=fun r s ao=>by simp only[gW];grind
 have adW:(Tag.own t).et (gW τ t i.size y) (i.size,y):=by simp[Tag.et,gW]
 by_cases hm:bZ.length=0
 ·
  have Kn:bZ=[]:=yV hm;subst Kn
  let bh:Own:=fun c=>kk t ed es.length (ω c)
  have di:∀c,c<w.heap.size->ω c≠.tok t []->bh c=kk t ed es.length (ω c)/\w.heap[c]?=w.heap[c]?:=fun c _ _=>⟨rfl,rfl⟩
  have fU:(Builtin.append_ #[iM,iM] ty #[y,e4]).run P w=.ok y w:=by
   refine Uu bK hi w ?_ ?_
   ·cases aC with
    | nil _ _ a0=>grind
    | row R k es b off cap arr ty cY us aw ef ai ao hk hu aE=>grind
   rcases jJ.shape with⟨⟨a,h⟩,_⟩ | ⟨b,o,c,h,_⟩
   ·grind
   grind
  refine⟨y,w,bh,fU,a6.dc _ (Jz jK lk di (fun id b aw=>by grind[kk]) ?_) a6.below ?_ ?_ ?_ (Ko _),?_,adW⟩
  ·intro cC gh eW _;refine eW.frame fun c q ai aH=>⟨?_,rfl⟩
   grind[Tag.R,xC]
  ·intro b aw;have:ω b≠.bP:=fun e=>by grind[kk]
   exact a6.owned b this
  ·intro id b aw;exact⟨by grind[kk],rfl⟩
  ·intro id b aw;exact M1.1 aw
  rw[iO];refine aC.frame fun c q ai aH=>⟨?_,rfl⟩
  grind[Tag.R,xC]
 have B5:0<bZ.length:=by omega
 rcases jJ.shape with⟨_,h⟩ | ⟨bg,k8,lS,rfl,ka⟩
 ·grind
 have grown:∀(w1:World) (cm:Array Value) (r:Value) (mU:Nat),g' w.heap.size w w1->w1.heap[w.heap.size]?=some (.cells cm e (0,0))->r=.slice (some ⟨w.heap.size,0,none⟩) (es.length+bZ.length) mU->
   es.length+bZ.length<=mU->mU*i.size<=cm.size->(∀gk j d,df es gk j=some d->∃u,cm[gk*i.size+j]?=some u/\∃R:List (Nat×Nat)->dv->Prop,(∀q o,R q o->o=.tok t ((gk,j)::q))/\b3 w ω R d u)->
   (∀x u,news[x]?=some u->cm[es.length*i.size+x]?=some u)->(∀e∈es,e.length=i.size)->
   ∃bh,cM w0 (st.y5 t ed) a w1 bh (gW τ t i.size r)/\Sat w1 bh (gW τ t i.size r) (.J (.own t) i.size (es++bZ)) r:=by
  intro w1 cm r mU l3 hv KJ ff dO hold FH xp;subst KJ
  let bh:Own:=fun c=>if c=w.heap.size then .tok t [] else @ite _ (ω c=.tok t []) (Classical.propDecidable _) .bP (kk t ed es.length (ω c))
  have aFF:ω w.heap.size=.bP:=a6.owned.fresh (fi _);have di:∀c,c<w.heap.size->ω c≠.tok t []->bh c=kk t ed es.length (ω c)/\w1.heap[c]?=w.heap[c]?:=by
   intro c ai cZ;refine⟨?_,l3.block c ai⟩;grind
  have px:bh w.heap.size=.tok t []:=by simp[bh]
  have oF:∀c p q,c<w.heap.size->ω c=.tok t (p::q)->bh c=.tok t (p::q):=by
   grind[xC]
  refine⟨bh,a6.dc _ (Jz jK lk di ?_ ?_) (a6.below.next l3) ?_ ?_ ?_ (Ko _),?_,by simp[Tag.et,gW]⟩
  ·intro id b aw;have bR:=a6.owned.lt (b:=b) (by simp[aw]);rw[(di b bR (by rw[aw];simp)).1,aw];rfl
  ·intro cC gh eW _;refine eW.frame fun c q ai aH=>⟨?_,l3.block c ai⟩
   simp only[Tag.R]at aH ⊢;cases q with
   | nil=>grind
   | cons p q=>grind
  ·intro b aw;by_cases zj:b=w.heap.size
   ·subst zj;exact⟨.inl a6.below.size,cm,e,hv⟩
   have:ω b≠.bP:=by
    intro e';simp only[bh]at aw;simp_all[bD,kk]
   obtain⟨aA,kt,kJ,aJ⟩:=a6.owned b this;grind
  ·intro id b aw;have bR:=a6.owned.lt (b:=b) (by simp[aw]);obtain⟨h1,U⟩:=di b bR (by rw[aw];simp);exact⟨by rw[h1,aw];rfl,U⟩
  ·intro id b aw;by_cases zj:b=w.heap.size
   ·grind
   simp only[bh]at aw;rw[bD zj]at aw;split at aw
   ·cases aw
   exact M1.1 aw
  have fA:∀x j d,df (es++bZ) x j=some d->∃u,cm[x*i.size+j]?=some u/\b3 w1 bh (fun q=>(Tag.own t).R ((x,j)::q)) d u:=by
   intro x j d aE;rw[Db]at aE;split at aE
   ·obtain⟨u,h1,R,ef,U⟩:=hold x j d aE;refine⟨u,h1,U.frame fun c q ai aH=>⟨?_,l3.block c ai⟩⟩;exact oF c _ _ ai (ef q _ aH)
   rename_i ag;obtain⟨u,h1,U⟩:=jJ.RQ (aN:=w1) (bh:=bh) (n:=es.length) lk di aE;refine⟨u,?_,?_⟩
   ·rw[<-FH _ u h1]
    congr 1
    have:x=es.length+(x-es.length):=by omega
    grind
   simp_all
  have hlen:(es++bZ).length=es.length+bZ.length:=f';have rF:∀e∈es++bZ,e.length=i.size:=by
   intro e' he;rcases hM.1 he with h | h
   ·grind
   exact jJ.rows e' h
  have:=b3.row (w:=w1) (ω:=bh) (Tag.own t).R i.size (es++bZ) w.heap.size 0 mU cm e (0,0) (fun x j=>cm.getD (x*i.size+j) undef) hv px (by omega) (by omega) rF
   (fun x j d aE=>by obtain⟨u,h1,_⟩:=fA x j d aE;simp_all)
   (fun x j d aE=>by obtain⟨u,h1,U⟩:=fA x j d aE;simp_all)
  grind
 generalize sR:y=mM at aC;cases aC with
 | nil _ _ a0=>
  subst sR;simp only[ew,dX]at hs hS;have fU:(Builtin.append_ #[iM,iM] ty #[.slice a0 0 0,.slice (some ⟨bg,k8,none⟩) bZ.length lS]).run P w=
    .ok (.slice (some ⟨w.heap.size,0,none⟩) bZ.length (grownCap w bZ.length 0 e)) (w.drew.alloc (.cells (news.toArray++Builtin.zeroCells z.cells (grownCap w bZ.length 0 e-bZ.length)) e)):=by
   cases a0 with
   | none=>exact run_append_nil (P:=P) w iM ty e i z bK hi bb ⟨bg,k8,none⟩ bZ.length lS news jJ.len ka B5 (by omega) (by omega)
   | some b8=>
    have:=run_append_grow (P:=P) w iM ty e i z bK hi bb b8 0 0 [] (by simp) (fun j v bF=>by simp at bF) ⟨bg,k8,none⟩ bZ.length lS news jJ.len ka (by omega) (by omega) (growslice_fits (by omega) (by grind));grind
  have qp:=grownCap_ge w bZ.length 0 e;obtain⟨bh,h1,U⟩:=grown _ (news.toArray++Builtin.zeroCells z.cells (grownCap w bZ.length 0 e-bZ.length)) (.slice (some ⟨w.heap.size,0,none⟩) bZ.length (grownCap w bZ.length 0 e)) (grownCap w bZ.length 0 e)
   (((g'.refl _ _).drew).alloc (fi _) _) (oP _ _) (by simp) (by grind) (by
    simp only[u',o1,size_zeroCells,jJ.len,nS,<-hK];grind)
   (fun gk j d aE=>by grind[df]) (fun x u ag=>by
    grind) (fun e he=>by cases he)
  grind
 | row R k es b off cap arr jB cY us aw ef ai ao ht hu aE=>
  have l2:ω b=.tok t []:=ef;obtain⟨xn,vg,wU,iw⟩:=a6.owned b (by grind);rw[aw]at iw;simp only[aZ,Obj.cells.injEq]at iw;obtain⟨rfl,rfl,rfl⟩:=iw;have xj:b<w.heap.size:=(jj.1 aw).1;by_cases nc:es.length+bZ.length<=cap
  ·
   have hmul:(es.length+bZ.length)*i.size<=cap*i.size:=hI _ nc;rw[hK]at hmul;have vD:=jJ.len;have eo:off+es.length*i.size+news.length<=arr.size:=by omega
   have fU:=Gs (P:=P) (ty:=ty) bK hi w b off es.length cap arr jB aw ⟨bg,k8,none⟩ bZ.length lS news jJ.len ka jJ.one nc eo;generalize qn:(arr.toList.take (off+es.length*i.size)++news++arr.toList.drop (off+es.length*i.size+news.length)).toArray=cm at fU;have hT:∀x:Nat,cm[x]?=if off+es.length*i.size<=x/\x<off+es.length*i.size+news.length then news[x-(off+es.length*i.size)]? else arr[x]?:=by
    intro x;rw[<-qn,p6,C' (by grind)];simp
   have zA:cm.size=arr.size:=by grind
   have l6:=setRow_heap w b arr cm jB (0,0) aw
   let bh:Own:=fun c=>kk t ed es.length (ω c)
   have di:∀c,c<w.heap.size->ω c≠.tok t []->bh c=kk t ed es.length (ω c)/\(w.setRow b cm).heap[c]?=w.heap[c]?:=fun c _ cZ=>
    ⟨rfl,setRow_other w b c cm fun e=>cZ (by grind)⟩
   have px:bh b=.tok t []:=by grind[xC]
   have oF:∀c p q,c<w.heap.size->ω c=.tok t (p::q)->bh c=.tok t (p::q)/\(w.setRow b cm).heap[c]?=w.heap[c]?:=by
    intro c p q ai aH;obtain⟨h1,U⟩:=di c ai (by rw[aH];simp);rw[h1,aH,xC lk];grind
   refine⟨_,_,bh,fU,a6.dc _ (Jz jK lk di (fun id c iT=>by grind[kk]) ?_) ?_ ?_ ?_ ?_ (Ko _),?_,by simp[Tag.et,gW]⟩
   ·intro cC gh eW rv;rw[rv,e2,sR]at eW ⊢;rw[e1]at eW ⊢;have mZ:es.length=cC.length:=by
     obtain⟨_,_,h⟩:=eW.len;grind
    refine b3.aaA eW aw l6 zA (fun x ag=>?_) (fun o a8 zy=>?_) (fun c p q ai aH=>?_)
    ·grind
    ·right;grind
    grind[Tag.R]
   ·exact a6.below.setRow xn cm
   ·intro c iT;have:ω c≠.bP:=fun e=>by grind[kk]
    obtain⟨aA,kt,kJ,aJ⟩:=a6.owned c this;grind[setRow_other]
   ·grind[id,kk,setRow_other]
   ·intro id c iT;exact M1.1 iT
   have fA:∀x j d,df (es++bZ) x j=some d->∃u,cm[off+x*i.size+j]?=some u/\b3 (w.setRow b cm) bh (fun q=>(Tag.own t).R ((x,j)::q)) d u:=by
    intro x j d eu;rw[Db]at eu;split at eu
    ·rename_i ag;have B3:=(uL ht eu).2;refine⟨us x j,?_,(aE x j d eu).frame fun c q ai aH=>?_⟩
     ·have:(x+1)*i.size<=es.length*i.size:=hI _ ag;rw[hK]at this;rw[hT,bD (by omega),hu x j d eu]
     exact oF c _ _ ai aH
    rename_i ag;obtain⟨u,h1,U⟩:=jJ.RQ (aN:=w.setRow b cm) (bh:=bh) (n:=es.length) lk di eu;have afb:=(ga.1 h1).1;have zB:x*i.size=es.length*i.size+(x-es.length)*i.size:=by rw[<-hK];grind
    refine⟨u,?_,?_⟩
    ·rw[hT,bq (by omega),<-h1]
     congr 1
     omega
    rwa[show es.length+(x-es.length)=x by omega]at U
   have hlen:(es++bZ).length=es.length+bZ.length:=f';have rF:∀e∈es++bZ,e.length=i.size:=by
    intro e' he;rcases hM.1 he with h | h
    ·grind
    exact jJ.rows e' h
   have:=b3.row (w:=w.setRow b cm) (ω:=bh) (Tag.own t).R i.size (es++bZ) b off cap cm jB (0,0) (fun x j=>cm.getD (off+x*i.size+j) undef) l6 px (by omega) (by omega) rF
    (fun x j d aE=>by obtain⟨u,h1,_⟩:=fA x j d aE;rw[h1];simp[fc,h1])
    (fun x j d aE=>by obtain⟨u,h1,U⟩:=fA x j d aE;have:cm.getD (off+x*i.size+j) undef=u:=(by simp[fc,h1]);grind)
   grind
  -- it aE7
  have hmul:es.length*i.size<=cap*i.size:=hI _ ai;have sN:((arr.toList.drop off).take (es.length*i.size)).length=es.length*i.size:=by simp;omega
  have fU:=run_append_grow (P:=P) w iM ty e i z bK hi bb ⟨b,off,none⟩ es.length cap ((arr.toList.drop off).take (es.length*i.size)) sN (fun j v bF=>by
   grind[rU,cell_of_row]) ⟨bg,k8,none⟩ bZ.length lS news jJ.len ka (by omega) (by omega) (growslice_fits (by omega) hs)
  have qp:=grownCap_ge w (es.length+bZ.length) cap e;obtain⟨bh,h1,U⟩:=grown _ (((arr.toList.drop off).take (es.length*i.size)).toArray++news.toArray++Builtin.zeroCells z.cells (grownCap w (es.length+bZ.length) cap e-(es.length+bZ.length))) _ (grownCap w (es.length+bZ.length) cap e)
   (((g'.refl _ _).drew).alloc (fi _) _) (oP _ _) rfl qp (by
    simp only[u',o1,size_zeroCells,jJ.len,nS,sN,<-hK];grind)
   (fun gk j d eQ=>by
    obtain⟨zq,eJ⟩:=uL ht eQ;have:(gk+1)*i.size<=es.length*i.size:=hI _ zq;rw[hK]at this;refine⟨us gk j,?_,fun q=>(Tag.own t).R ((gk,j)::q),fun q o h=>h,aE gk j d eQ⟩;grind)
   (fun x u ag=>by
    have gz:=(ga.1 ag).1;rw[ji,bq (by grind),ji,bD (by grind)];grind) ht
  grind
end Go.Sx
namespace Go.Sx
open Go.RowKit
def Flat(es:List (List D)):Prop:=∀e∈es,∀d∈e,∃x,d=.v x
theorem aAx{es:List (List D)}{i j:Nat}{d:D}(h:df es i j=some d):∃e∈es,d∈e:=by
 unfold df at h;cases ag:es[i]? with
 | none=>grind
 | some e=>rw[ag,q0]at h;exact⟨e,gj ag,gj h⟩
variable{P:Program}{w:World}{ω:Own}{k:Nat}{ed:Option Nat}
theorem Src.empty(a:Option Addr):Src P w ω k [] ed (.slice a 0 0) [] where
 len:=by simp
 rows:=fun _ h=>(by cases h)
 one:=fun _ h=>(by cases h)
 cell:=fun i j d aE=>by grind[df]
 shape:=.inl ⟨⟨a,rfl⟩,rfl⟩
theorem Src.of{R:List (Nat×Nat)->dv->Prop}{bZ:List (List D)}{y:Value}(h:b3 w ω R (.J k bZ) y)(oE:0<k)
  (ai:Flat bZ\/∃s,ed=some s/\R=(Tag.own s).R):∃news,Src P w ω k bZ ed y news:=by
 cases h with
 | nil=>exact⟨[],Src.empty _⟩
 | row R k es b off cap arr ty cY us aw ef ff ao ht hu aE=>
  have hmul:bZ.length*k<=cap*k:=hI _ ff;have hT:∀x:Nat,((arr.toList.drop off).take (bZ.length*k))[x]?=if x<bZ.length*k then arr[off+x]? else none:=by
   grind
  have fA:∀i j d,df bZ i j=some d->((arr.toList.drop off).take (bZ.length*k))[i*k+j]?=some (us i j):=by
   intro i j d eQ;obtain⟨hi,bf⟩:=uL ht eQ;have:(i+1)*k<=bZ.length*k:=hI _ hi;grind
  refine⟨(arr.toList.drop off).take (bZ.length*k),by simp;omega,ht,?_,?_,.inr ⟨b,off,cap,rfl,?_⟩⟩
  ·intro u ky;obtain⟨x,ag⟩:=ob.1 ky;have bR:x<bZ.length*k:=by
    grind
   have zB:x=(x / k)*k+x % k:=by grind[Nat.mul_comm,Nat.div_add_mod]
   have aH:x / k<bZ.length:=Nat.div_lt_of_lt_mul (by grind);obtain⟨d,eQ⟩:=Ut ht aH (Nat.mod_lt x oE);have h1:=fA _ _ _ eQ;rw[<-zB,ag]at h1;rw[gO h1];exact (aE _ _ _ eQ).qH
  ·intro i j d eQ;refine⟨us i j,fA i j d eQ,?_⟩;rcases ai with bI | ⟨s,mw,xr⟩
   ·obtain⟨e,he,BX⟩:=aAx eQ;obtain⟨x,rfl⟩:=bI e he d BX;have:=aE i j _ eQ;cases aA:us i j<;>(rw[aA]at this;cases this;grind)
   simp_all
  grind[rU,cell_of_row]
variable{τ:Nat->Nat×Value}
theorem cM.LK{w0:eT}{st:aD}{a:Act}(h:cM w0 st a w ω τ)(t k:Nat)(jK:t<dk):
  ∃bh,cM w0 (st.ki t []) a w bh (gW τ t k (.slice none 0 0))/\Sat w bh (gW τ t k (.slice none 0 0)) (.J (.own t) k []) (.slice none 0 0):=by
 refine⟨fun b=>qL t [] (ω b),h.dc _ (mQ.sat (g:=iX t []) (p:=fun _=>true) ⟨?_,?_,?_,rfl,fun s ao=>by simp only[gW];grind⟩) h.below ?_ ?_ ?_ (fun s ao=>by simp only[gW];grind),.nil _ _ _,by simp[Tag.et,gW]⟩
 ·grind[Uo]
 ·intro g eN y ay bu;cases g with
  | free=>simp only[iX,aZ]at ay;subst ay;exact trivial
  | own s=>
   simp only[iX]at ay;split at ay
   ·simp only[aZ]at ay;subst ay;exact trivial
   split at ay
   ·cases ay
   simp only[aZ]at ay;subst ay;simp_all[Tag.et,gW,bD]
  | ro s=>
   simp only[iX]at ay;split at ay
   ·simp only[aZ]at ay;subst ay;exact trivial
   split at ay
   ·cases ay
   simp only[aZ]at ay;subst ay;exact trivial
 ·intro id b _ aw;exact Gn.2 aw
 ·intro b aw;exact h.owned b fun e=>by simp only[e]at aw;exact aw rfl
 ·intro id b aw;exact⟨Gn.2 aw,rfl⟩
 intro id b aw;exact Gn.1 aw
def xa(t k:Nat)(q:aI)(ans:List cf):Option (List (List D)×Option Nat×List cf×List Prop):=
 match q.leaf,ans with
 | some (.J (.own s) ck bZ),.wr::r=>if ck=k/\s≠t then some (bZ,some s,r,[]) else none
 | some (.J _ ck bZ),ans=>if ck=k then some (bZ,none,ans,[Flat bZ]) else none
 | some (.v (.slice none 0 0)),ans=>some ([],none,ans,[])
 | some (.aR _ _ _ ck bZ .here),ans=>if ck=k then some (bZ,none,ans,[Flat bZ]) else none
 | some (.aR _ _ _ ck bZ .mS),ans=>if ck=k then some (bZ,none,ans,[Flat bZ]) else none
 | _,_=>none
theorem Uv{P:Program}{t:Nat}{q:aI}{y:Value}{ans cv:List cf}{bZ:List (List D)}{obs:List Prop}(oE:0<k)
  (aH:cW (Sat w ω τ) q y) (h:xa t k q ans=some (bZ,ed,cv,obs)) (a8:cO obs):ed≠some t/\∃news,Src P w ω k bZ ed y news:=by
 unfold xa at h;split at h
 ·rename_i s ck es r e;split at h
  ·rename_i ai;obtain⟨rfl,cZ⟩:=ai;simp only[aZ,bL]at h;obtain⟨rfl,rfl,_,_⟩:=h;exact⟨by grind,Src.of (aI.dU e aH).1 oE (.inr ⟨s,rfl,rfl⟩)⟩
  cases h
 ·rename_i g ck es e _;split at h
  ·rename_i ai;subst ai;simp only[aZ,bL]at h;obtain⟨rfl,rfl,_,rfl⟩:=h;exact⟨by simp,Src.of (aI.dU e aH).1 oE (.inl a8.1)⟩
  cases h
 ·rename_i e;simp only[aZ,bL]at h;obtain⟨rfl,rfl,_,_⟩:=h;have:y=.slice none 0 0:=aI.dU e aH;subst this;exact⟨by simp,[],Src.empty _⟩
 ·rename_i s D8 D9 ck es e;split at h
  ·rename_i ai;subst ai;simp only[aZ,bL]at h;obtain⟨rfl,rfl,_,rfl⟩:=h;obtain⟨fo,rfl,aC,_⟩:=aI.dU e aH;exact⟨by simp,Src.of aC oE (.inl a8.1)⟩
  cases h
 ·rename_i s D8 D9 ck es e;split at h
  ·rename_i ai;subst ai;simp only[aZ,bL]at h;obtain⟨rfl,rfl,_,rfl⟩:=h;obtain⟨fo,rfl,aC,_⟩:=aI.dU e aH;exact⟨by simp,Src.of aC oE (.inl a8.1)⟩
  cases h
 cases h
def E6(d:Nat)(st:aD)(k:Nat)(p:aI):Option (aD×Nat×List (List D)):=
 match p.leaf with
 | some (.J (.own t) ck es)=>if ck=k then some (st,t,es) else none
 | some (.v (.slice none 0 0))=>some (st.ki d [],d,[])
 | _=>none
def A2(P:Program)(st:aD)(d:Nat)(t:TypeId)(x y:Operand)(ans:List cf):Stepped:=
 match rV P t with
 | some (e,k)=>
  match P.info? e,E6 d st k (st.bt x) with
  | some i,some (st1,hG,es)=>
   match i.zero,xa hG k (st1.bt y) ans with
   | some z,some (bZ,ed,cv,obs)=>
    if z.cells.size=k/\0<k/\hG<dk then
     some (⟨(st1.y5 hG ed).env.set d (.one (.J (.own hG) k (es++bZ))),(st1.y5 hG ed).boxes⟩,cv,((es.length+bZ.length)*i.bytes<=140737488355328)::(es.length+bZ.length<=9223372036854775807)::obs)
    else none
   | _,_=>none
  | _,_=>none
 | none=>none
theorem cM.A2{w0:eT}{st bG:aD}{a:Act}{d:Nat}{t ty:TypeId}{x y:Operand}{ans cv:List cf}{obs:List Prop}
  (a6:cM w0 st a w ω τ) (h:Sx.A2 P st d t x y ans=some (bG,cv,obs)) (a8:cO obs):
  ∃z aN,(Builtin.append_ #[t,t] ty #[a.eval x,a.eval y]).run P w=.ok z aN/\Rel w0 bG (a.put (some d) z) aN:=by
 unfold Sx.A2 at h;split at h
 ·rename_i e k he;obtain⟨hu,i0,lH,zz⟩:=xA he;split at h
  ·rename_i i st1 hG es hi kX;rw[lH]at hi;have qs:=gO hi;subst qs;split at h
   ·rename_i z bZ ed w' zK bb jJ;split at h
    ·rename_i ai;simp only[aZ,bL]at h;obtain⟨rfl,rfl,rfl⟩:=h;obtain⟨cy,ci,cI⟩:=a8;have:∃Jp Rz,cM w0 st1 a w Jp Rz/\Sat w Jp Rz (.J (.own hG) k es) (a.eval x):=by
      unfold E6 at kX;split at kX
      ·rename_i dx ck cC al;split at kX
       ·rename_i ht;subst ht;simp only[aZ,bL]at kX;obtain⟨rfl,rfl,rfl⟩:=kX;exact⟨ω,τ,a6,aI.dU al (a6.bt x)⟩
       cases kX
      ·rename_i al;simp only[aZ,bL]at kX;obtain⟨rfl,rfl,rfl⟩:=kX;have:a.eval x=.slice none 0 0:=aI.dU al (a6.bt x);rw[this];obtain⟨Jp,h1,U⟩:=a6.LK d k ai.2.2;grind
      cases kX
     obtain⟨Jp,Rz,h',ag⟩:=this;obtain⟨lk,news,ao⟩:=Uv (P:=P) ai.2.1 (h'.bt y) jJ cI;obtain⟨r,aN,bh,h1,U,aA⟩:=h'.append (P:=P) (ty:=ty) ag ao lk hu lH bb zz ai.1 cy ci ai.2.2;exact⟨r,aN,h1,bh,_,U.put (p:=.one (.J (.own hG) k (es++bZ))) aA⟩
    cases h
   cases h
  cases h
 cases h
