import Derived.Test.YtdchjefneblpgaaGreatR1
set_option linter.unusedVariables false
set_option linter.unusedSimpArgs false
namespace Go.Sx
open Go.RowKit
def pu(id:Nat)(e6:List az):List (Nat×List az)->List (Nat×List az)
 | []=>[]
 | (i,ls)::r=>if i=id then (i,e6)::r else (i,ls)::pu id e6 r
variable{id:Nat}{e6:List az}
theorem ww:∀{bs:List (Nat×List az)} {ls:List az},df id bs=some ls->df id (pu id e6 bs)=some e6
 | [],_,h=>by cases h
 | (i,l)::r,ls,h=>by
  simp only[pu];by_cases hi:i=id
  ·simp_all[bM,df]
  simp_all[bG,df,ww]
theorem wx{hn:Nat}(a8:hn≠id):∀{bs:List (Nat×List az)},df hn (pu id e6 bs)=df hn bs
 | []=>rfl
 | (i,l)::r=>by
  simp only[pu];by_cases hi:i=id
  ·simp_all[bM,df,bG,Ne.symm]
  simp_all[bG,df,wx]
theorem Tag.Vp{t:Tag}{q:List (Nat×Nat)}:¬t.R q (.box id):=by
 cases t with
 | free=>exact fun h=>by cases h
 | own s=>exact fun h=>by cases h
 | ro s=>exact fun h=>by rcases h with h | ⟨_,h⟩<;>cases h
theorem Sat.asb{w:World}{ω:Own}{τ:Nat->Nat×Value}{b:Nat}(aw:ω b=.box id)(cs:Array Value):∀(l:az) (v:Value),Sat w ω τ l v->Sat (w.setRow b cs) ω τ l v:=by
 have bh:kK w ω τ (w.setRow b cs) ω τ qb (fun _=>true):=by
  refine⟨?_,?_,fun _ _ _ h=>h,rfl,fun _ _=>rfl⟩
  ·intro t c5 da q av _ aK;simp only[qb,aS]at av;grind[setRow_other,Tag.Vp]
  simp_all[qb,aS]
 intro l v ai;have:=bh.sat l v ai;cases l with
 | aO t i j k es m=>
  obtain⟨u,hu,h1,hm⟩:=ai;refine⟨u,hu,h1.frame fun c q al aK=>⟨aK,setRow_other w b c cs fun e=>?_⟩,fun bH=>?_⟩
  ·grind
  obtain⟨kT,fQ,off,len,cap,arr,ty,cL,U,aY,ax,aJ⟩:=hm bH;exact⟨kT,fQ,off,len,cap,arr,ty,cL,U,aY,(setRow_other w b fQ cs fun e=>by grind).trans ax,aJ⟩
 | eX t vs=>
  obtain⟨fQ,ty,arr,e,aY,ax,a8,bz⟩:=ai;refine⟨fQ,ty,arr,e,aY,(setRow_other w b fQ cs fun e=>by grind).trans ax,a8,fun j c al=>?_⟩;obtain⟨u,h1,U⟩:=bz j c al;refine⟨u,h1,?_⟩;have dQ:=bh.ku c u U;have:eD.ct qb c=c:=by cases c<;>simp[eD.ct,qb]
  grind
 | _=>simp_all[az.ct,qb]
variable{w0:ee}{st:aD}{a:Act}{w:World}{ω:Own}{τ:Nat->Nat×Value}
theorem cr.asi(h:cr w0 st a w ω τ){ls:List az}(av:df id st.boxes=some ls)
  {b:Nat} (aw:ω b=.box id) {b9:Array Value} (ai:jv (Sat w ω τ) e6 b9):
  cr w0 ⟨st.env,pu id e6 st.boxes⟩ a (w.setRow b b9) ω τ:=by
 obtain⟨da,arr,ty,eh,hu,bH,ei⟩:=h.boxes id ls av;have:=hu b aw;subst this;have Gb:=Sat.asb (w:=w) (ω:=ω) (τ:=τ) aw b9;have j7:=setRow_heap w b arr b9 ty (0,0) bH;refine⟨h.defers,h.size,?_,?_,h.fixed,h.pinned,?_,?_⟩
 ·exact h.below.setRow (h.owned b (by simp[aw])).1 b9
 ·intro c al;obtain⟨h1,jx,jJ,U⟩:=h.owned c al;grind[setRow_other]
 ·intro i p hp;obtain⟨v,h1,U⟩:=h.env i p hp;refine⟨v,h1,?_⟩;have:=cE.map (f:=_root_.id) Gb U;have e:aE.map _root_.id p=p:=by
   cases p with
   | aF a=>cases a<;>simp[aE.map,bm.map]
   | fv as=>
    simp only[aE.map]
    congr 1
    have:bm.map _root_.id=_root_.id:=by funext a;cases a<;>simp[bm.map]
    simp_all
  grind
 intro i l ap;by_cases e:i=id
 ·subst e;rw[ww av]at ap;have e:=gP ap;subst e;refine⟨b,b9,ty,aw,hu,j7,?_⟩;have:=ai.map (f:=_root_.id) Gb;simp_all
 rw[wx e]at ap;obtain⟨c,jx,jJ,al,Wp,Wh,nU⟩:=h.boxes i l ap;have c3:c≠b:=fun e'=>by grind
 refine⟨c,jx,jJ,al,Wp,(setRow_other w b c b9 c3).trans Wh,?_⟩;have:=nU.map (f:=_root_.id) Gb;simp_all
abbrev Stepped:=Option (aD×List b4×List Prop)
def HS(st:aD)(d:Nat)(p:aE)(ans:List b4):Stepped:=
 if d<cX then p.leaves.map fun ls=>(⟨(st.sJ d ls).env.set d (.one (.ptr d 0)),(st.sJ d ls).boxes⟩,ans,[]) else none
variable{bn:aD}{ans b':List b4}{obs:List Prop}
theorem cr.box{P:Program}{d:Nat}{p:aE}{v:Value}(aU:cr w0 st a w ω τ)
  (hp:cE (Sat w ω τ) p v) (h:HS st d p ans=some (bn,b',obs)) (ty:TypeId):
  ∃z aM,(do pure (.pointer (some (<-newVar ty v))):Sem Value).run P w=.ok z aM/\Rel w0 bn (a.put (some d) z) aM:=by
 unfold HS at h;split at h
 case isFalse=>cases h
 rename_i sv;rw[bX]at h;obtain⟨ls,h1,h⟩:=h;simp only[bq]at h;obtain⟨rfl,_,_⟩:=h;obtain⟨ai,_⟩:=aE.wl h1 hp;obtain⟨a7,F8,c7⟩:=aU.sJ d sv ty ai;refine⟨.pointer (some ⟨w.heap.size,0,none⟩),w.alloc (.cells v.cells ty),by simp[newVar,newRow],a7,τ,?_⟩;exact F8.put (p:=.one (.ptr d 0)) ⟨w.heap.size,c7,rfl⟩
def HT(P:Program)(st:aD)(d:Nat)(elem:TypeId)(ans:List b4):Stepped:=
 match P.info? elem with
 | some i=>match i.zero with
  | some z=>if d<cX then let ls:=z.cells.toList.map .v;some (⟨(st.sJ d ls).env.set d (.one (.ptr d 0)),(st.sJ d ls).boxes⟩,ans,[]) else none
  | none=>none
 | none=>none
theorem cr.alloc{P:Program}{d:Nat}{elem:TypeId}(aU:cr w0 st a w ω τ)
  (h:HT P st d elem ans=some (bn,b',obs)):
  ∃z aM,(Instr.alloc elem true (.tuple #[])).run P w=.ok z aM/\Rel w0 bn (a.put (some d) z) aM:=by
 unfold HT at h;split at h
 ·rename_i i hi;split at h
  ·rename_i z bl;split at h
   case isFalse=>cases h
   rename_i sv;simp only[aS,bq]at h;obtain⟨rfl,_,_⟩:=h;have ai:jv (Sat w ω τ) (z.cells.toList.map .v) z.cells:=by
    refine⟨by simp,fun j l ap=>?_⟩;rw[dr,bX]at ap;obtain⟨u,hu,rfl⟩:=ap;exact⟨u,by grind,rfl⟩
   obtain⟨a7,F8,c7⟩:=aU.sJ d sv elem ai;refine⟨.pointer (some ⟨w.heap.size,0,none⟩),w.alloc (.cells z.cells elem),by simp_all[Instr.alloc,zeroValue,typeInfo,newVar,newRow],a7,τ,?_⟩;exact F8.put (p:=.one (.ptr d 0)) ⟨w.heap.size,c7,rfl⟩
  cases h
 cases h
def HU(P:Program)(st:aD)(t:TypeId)(id off:Nat)(q:aE)(ans:List b4):Stepped:=
 match df id st.boxes,q.leaves,P.info? t with
 | some ls,some xs,some i=>if xs.length=i.size/\off+xs.length<=ls.length then some (⟨st.env,pu id (sk ls off xs) st.boxes⟩,ans,[]) else none
 | _,_,_=>none
theorem y6{α:Type}{xs ys:List α}{off:Nat}(h:off+ys.length<=xs.length)(i:Nat):
  (xs.take off++ys++xs.drop (off+ys.length))[i]?=if off<=i/\i<off+ys.length then ys[i-off]? else xs[i]?:=by
 rw[tG,ov,tF,Nat.min_eq_left (by omega)];grind
theorem cr.ash{P:Program}{t:TypeId}{off:Nat}{q:aE}{b:Nat}{v:Value}
  (aU:cr w0 st a w ω τ) (aw:ω b=.box id) (aK:cE (Sat w ω τ) q v) (h:HU P st t id off q ans=some (bn,b',obs)):
  ∃aM,(Instr.storeAt t (.pointer (some ⟨b,off,none⟩)) v).run P w=.ok () aM/\Rel w0 bn a aM:=by
 unfold HU at h;split at h
 ·rename_i ls xs i e1 e2 cb;split at h
  ·rename_i al;simp only[aS,bq]at h;obtain⟨rfl,_,_⟩:=h;obtain⟨ai,o1⟩:=aE.wl e2 aK;obtain⟨da,arr,ty,eh,hu,bH,ei⟩:=aU.boxes id ls e1;have:=hu b aw;subst this;have eP:=run_storeCells_at P b off ty v.cells.toList 0 arr w bH (by simp;have:=ai.1;have:=ei.1;omega) o1;have fT:jv (Sat w ω τ) (sk ls off xs) (arr.toList.take (off+0)++v.cells.toList++arr.toList.drop (off+0+v.cells.toList.length)).toArray:=by
    have h1:=ai.1;have U:=ei.1;refine⟨?_,fun j l ap=>?_⟩
    ·grind[HG]
    rw[N9 (by omega)]at ap;rw[nA,mq,y6 (by simp;omega)];simp only[Mc];by_cases bg:off<=j/\j<off+xs.length
    ·rw[bM bg]at ap;rw[bM (by omega)];obtain⟨u,ax,aJ⟩:=ai.2 _ _ ap;grind
    rw[bG bg]at ap;rw[bG (by omega)];obtain⟨u,ax,aJ⟩:=ei.2 _ _ ap;grind
   refine⟨_,?_,ω,τ,aU.asi e1 aw fT⟩;simp only[Instr.storeAt,Instr.sureAddr,Sem.run_bind,Sem.run_pure,Result.andThen_ok,storeVar,sizeOf,typeInfo,run_program,cb];have dN:¬(v.cells.size≠i.size):=by simp;have:=ai.1;omega
   grind
  cases h
 cases h
end Go.Sx
namespace Go.Sx
open Go.RowKit
variable{w0:ee}{st:aD}{a:Act}{w:World}{ω:Own}{τ:Nat->Nat×Value}
theorem cr.dT{aM:World}{a7:Own}{cI:Nat->Nat×Value}(h:cr w0 st a w ω τ)(f:az->az)
  (ei:∀l v,Sat w ω τ l v->Sat aM a7 cI (f l) v) (p0:fO w0 aM) (o3:mx w0 aM a7)
  (q8:∀id b,ω b=.box id->a7 b=.box id/\aM.heap[b]?=w.heap[b]?) (ya:∀id b,a7 b=.box id->ω b=.box id) (sx:∀t,cX<=t->cI t=τ t:=by intros;rfl):cr w0 (st.map f) a aM a7 cI where
 defers:=h.defers
 size:=by simp[aD.map,h.size]
 below:=p0
 owned:=o3
 fixed:=fun t bU=>(sx t bU).trans (h.fixed t bU)
 pinned:=fun id b hi aw=>h.pinned id b hi (ya id b aw)
 env:=by
  intro i q aK;simp only[aD.map]at aK;rw[dr,bX]at aK;obtain⟨hE,b5,rfl⟩:=aK;obtain⟨v,h1,U⟩:=h.env i hE b5;exact⟨v,h1,cE.map ei U⟩
 boxes:=by
  intro id ls ap;simp only[aD.map]at ap;rw[rJ,bX]at ap;obtain⟨ij,b5,rfl⟩:=ap;obtain⟨b,arr,ty,aw,hu,bH,ai⟩:=h.boxes id ij b5;obtain⟨h1,U⟩:=q8 id b aw;exact⟨b,arr,ty,h1,fun da eh=>hu da (ya id da eh),U.trans bH,ai.map ei⟩
abbrev gR:=List (Nat×(Nat×Nat))
def gR.at(s:Nat):gR->Option (Nat×Nat)
 | []=>none
 | (i,p)::r=>if i=s then some p else gR.at s r
def ho(t:Nat)(ms:gR):Tag->Option Tag
 | .free=>some .free
 | .own s=>if s=t then some .free else if (ms.at s).isSome then none else some (.own s)
 | .ro s=>if s=t then some .free else if (ms.at s).isSome then none else some (.ro s)
def oc(t:Nat)(ms:gR):c0->c0
 | .tok s q=>if s=t then .bt else match ms.at s with | some p=>.tok t (p::q) | none=>.tok s q
 | o=>o
variable{t:Nat}{ms:gR}
theorem Cf{o:c0}{id:Nat}:oc t ms o=.box id<->o=.box id:=by
 cases o with
 | bt=>simp[oc]
 | box i=>simp[oc]
 | tok s q=>
  simp only[oc];split
  ·simp
  ·split<;>simp
theorem OS{g dW:Tag}{q:List (Nat×Nat)}{o:c0}(h:ho t ms g=some dW)(aH:g.R q o):dW.R q (oc t ms o):=by
 cases g with
 | free=>simp only[ho,aS]at h;subst h;simp only[Tag.R]at aH ⊢;rw[aH];rfl
 | own s=>
  simp only[Tag.R]at aH;subst aH;simp only[ho]at h;simp only[oc];split at h
  ·simp only[aS]at h;subst h;rw[bM ‹_›];rfl
  split at h
  ·cases h
  rename_i h1 U;simp only[aS]at h;subst h;rw[bG h1];cases e:ms.at s with
  | none=>rfl
  | some p=>simp[e]at U
 | ro s=>
  simp only[Tag.R]at aH;simp only[ho]at h;split at h
  ·simp only[aS]at h;subst h;rcases aH with rfl | ⟨dE,rfl⟩
   ·rfl
   simp only[oc];rw[bM ‹_›];rfl
  split at h
  ·cases h
  rename_i h1 U;simp only[aS]at h;subst h;rcases aH with rfl | ⟨dE,rfl⟩
  ·exact .inl rfl
  refine .inr ⟨dE,?_⟩;simp only[oc];rw[bG h1];cases e:ms.at s with
  | none=>rfl
  | some p=>simp[e]at U
def od(w:World)(ω:Own)(t:Nat)(ms:gR):Own:=fun b=>if b=w.heap.size then .tok t [] else oc t ms (ω b)
def u4(w:World)(τ:Nat->Nat×Value)(t k n c:Nat):Nat->Nat×Value:=fun s=>if s=t then (k,.slice (some ⟨w.heap.size,0,none⟩) n c) else τ s
def aD.il(st:aD)(t:Nat)(ms:gR):aD:=st.map (az.ct (ho t ms) fun _=>true)
theorem ajy{w1:World}{k n c:Nat}(hZ:t<cX)(b0:ω w.heap.size=.bt)(bH:∀b,b<w.heap.size->w1.heap[b]?=w.heap[b]?):
  kK w ω τ w1 (od w ω t ms) (u4 w τ t k n c) (ho t ms) (fun _=>true):=by
 refine⟨?_,?_,?_,rfl,fun s ai=>by simp only[u4];rw[bG (by omega)]⟩
 ·intro g dW b q av aw aK;refine⟨?_,bH b aw⟩;simp only[od];rw[bG (by omega)];exact OS av aK
 ·intro g dW y av bD;cases g with
  | free=>simp only[ho,aS]at av;subst av;exact trivial
  | own s=>
   simp only[ho]at av;split at av
   ·simp only[aS]at av;subst av;exact trivial
   split at av
   ·cases av
   simp only[aS]at av;subst av;simp only[Tag.dJ,u4]at bD ⊢;rw[bG ‹_›];exact bD
  | ro s=>
   simp only[ho]at av;split at av
   ·simp only[aS]at av;subst av;exact trivial
   split at av
   ·cases av
   simp only[aS]at av;subst av;exact trivial
 intro id b _ aw;simp only[od];by_cases e:b=w.heap.size
 ·subst e;rw[b0]at aw;cases aw
 rw[bG e,aw];rfl
def az.hM:az->Option D
 | .v x=>if x.oneCell' then some (.v x) else none
 | .a' c=>some (.v (.bool c))
 | .J (.own _) k es=>some (.J k es)
 | _=>none
def az.tok:az->Option Nat
 | .J (.own s) _ _=>some s
 | _=>none
def Cg(w:World)(ω:Own)(τ:Nat->Nat×Value)(t:Nat)(ms:gR)(i j:Nat)(d:D)(u:Value):Prop:=
 ∃l:az,l.hM=some d/\Sat w ω τ l u/\∀s,l.tok=some s->s≠t/\ms.at s=some (i,j)
theorem Cg.rep{w1:World}{i j:Nat}{d:D}{u:Value}(h:Cg w ω τ t ms i j d u)(bH:∀b,b<w.heap.size->w1.heap[b]?=w.heap[b]?):
  bQ w1 (od w ω t ms) (fun q=>(Tag.own t).R ((i,j)::q)) d u:=by
 obtain⟨l,aG,ai,hm⟩:=h;cases l with
 | cj=>cases aG
 | v x=>
  simp only[az.hM]at aG;split at aG
  ·simp only[aS]at aG;subst aG;have:u=x:=ai;subst this;exact .v _ _ ‹_›
  cases aG
 | a' c=>
  simp only[az.hM,aS]at aG;subst aG;have:u=.bool c:=ai;subst this;exact .v _ _ rfl
 | J g k es=>
  cases g with
  | free=>cases aG
  | ro s=>cases aG
  | own s=>
   simp only[az.hM,aS]at aG;subst aG;obtain⟨c3,pZ⟩:=hm s rfl;refine ai.1.frame fun b q aw aK=>⟨?_,bH b aw⟩
   simp only[Tag.R]at aK ⊢;simp only[od];rw[bG (by omega),aK];simp only[oc];rw[bG c3,pZ]
 | ptr id off=>cases aG
 | cB g k es i j=>cases aG
 | ha=>cases aG
 | fd=>cases aG
 | c'=>cases aG
 | fR=>cases aG
 | aO=>cases aG
 | eX=>cases aG
theorem cr.il{w1:World}(h:cr w0 st a w ω τ)(t:Nat)(hZ:t<cX)(ms:gR){k cap:Nat}{es:List (List D)}{arr:Array Value}{ty:TypeId}
  (aw:fP w.heap.size w w1) (fT:w1.heap[w.heap.size]?=some (.cells arr ty (0,0))) (al:es.length<=cap) (dN:cap*k<=arr.size) (hk:∀e∈es,e.length=k)
  (eW:∀i j d,cQ es i j=some d->∃u,arr[i*k+j]?=some u/\Cg w ω τ t ms i j d u):
  cr w0 (st.il t ms) a w1 (od w ω t ms) (u4 w τ t k es.length cap)/\
  Sat w1 (od w ω t ms) (u4 w τ t k es.length cap) (.J (.own t) k es) (.slice (some ⟨w.heap.size,0,none⟩) es.length cap):=by
 have b0:ω w.heap.size=.bt:=h.owned.fresh (ga _);have hblk:=aw.block;have at6:w.heap.size<w1.heap.size:=(iE.1 fT).1;have mQ:od w ω t ms w.heap.size=.tok t []:=by simp[od]
 have hX:∀b,b≠w.heap.size->od w ω t ms b=oc t ms (ω b):=fun b aw=>by simp[od,aw]
 refine⟨h.dT _ (ajy hZ b0 hblk).sat ?_ ?_ ?_ ?_ (fun s ai=>by simp only[u4];rw[bG (by omega)]),?_,?_⟩
 ·exact h.below.next aw
 ·intro b fr;by_cases e:b=w.heap.size
  ·subst e;exact⟨.inl h.below.size,arr,ty,fT⟩
  rw[hX b e]at fr;have U:ω b≠.bt:=fun e'=>by rw[e']at fr;exact fr rfl
  obtain⟨ax,jx,jJ,aJ⟩:=h.owned b U;exact⟨ax,jx,jJ,(hblk b (h.owned.lt U)).trans aJ⟩
 ·intro id b fr;have bJ:=h.owned.lt (b:=b) (by simp[fr]);rw[hX b (by omega),fr];exact⟨rfl,hblk b bJ⟩
 ·intro id b fr;by_cases e:b=w.heap.size
  ·subst e;rw[mQ]at fr;cases fr
  rw[hX b e]at fr;exact Cf.1 fr
 ·have uv:∀i j d,cQ es i j=some d->arr[0+i*k+j]?=some (arr.getD (i*k+j) undef)/\Cg w ω τ t ms i j d (arr.getD (i*k+j) undef):=by
   intro i j d aG;obtain⟨u,h1,U⟩:=eW i j d aG;have e:arr.getD (i*k+j) undef=u:=by simp[er,h1]
   rw[e];exact⟨by rw[dF];exact h1,U⟩
  exact .row _ k es w.heap.size 0 cap arr ty (0,0) (fun i j=>arr.getD (i*k+j) undef) fT mQ al (by omega) hk (fun i j d aG=>(uv i j d aG).1) (fun i j d aG=>(uv i j d aG).2.rep hblk)
 simp[Tag.dJ,u4]
def Ch(P:Program)(st:aD)(d:Nat)(t:TypeId)(p q:aE)(ans:List b4):Stepped:=
 match P.underlying t with
 | some (.slice e)=>
  match P.info? e,p.int,q.int with
  | some i,some (_,l),some (_,c)=>
   match i.zero with
   | some z=>
    if i.size=z.cells.size/\0<i.size/\z.cells.all (·.oneCell')=true/\d<cX then
     some (⟨(st.il d []).env.set d (.one (.J (.own d) i.size (List.replicate l.toNat (z.cells.toList.map .v)))),(st.il d []).boxes⟩,ans,[0<=l,l<=c,(i.bytes:Int)*c<=281474976710656,c<=9223372036854775807])
    else none
   | none=>none
  | _,_,_=>none
 | _=>none
theorem OT(z:Array Value)(n i j:Nat)(hi:i<n)(bg:j<z.size):(madeCells z (n*z.size))[i*z.size+j]?=z[j]?:=by
 have bJ:i*z.size+j<n*z.size:=by
  have:(i+1)*z.size<=n*z.size:=gW _ hi;rw[gB]at this;omega
 have e:(i*z.size+j) % z.size=j:=by rw[Nat.add_comm,Nat.add_mul_mod_self_right];exact EO bg
 simp[madeCells,bJ,e,getElem!_pos,bg]
theorem ajz{n:Nat}{e:List D}{i j:Nat}{d:D}(h:cQ (List.replicate n e) i j=some d):i<n/\e[j]?=some d:=by
 unfold cQ at h;rw[AZ]at h;split at h
 ·exact⟨‹_›,h⟩
 simp at h
theorem cr.make{P:Program}{bn:aD}{d:Nat}{t:TypeId}{p q:aE}{u v:Value}{ans b':List b4}{obs:List Prop}
  (aU:cr w0 st a w ω τ) (hp:cE (Sat w ω τ) p u) (aK:cE (Sat w ω τ) q v) (h:Ch P st d t p q ans=some (bn,b',obs)) (aZ:cA obs):
  ∃z aM,(Instr.makeSlice t u v).run P w=.ok z aM/\Rel w0 bn (a.put (some d) z) aM:=by
 unfold Ch at h;split at h
 ·rename_i e hu;split at h
  ·rename_i i c4 l b8 c hi e1 e2;split at h
   ·rename_i z bl;split at h
    ·rename_i al;obtain⟨kQ,ko,j6,q'⟩:=al;simp only[aS,bq]at h;obtain⟨rfl,_,rfl⟩:=h;obtain⟨cy,ca,cC,ff,_⟩:=aZ;rw[aE.mR e1 hp,aE.mR e2 aK];have e5:=run_make (P:=P) w t e i z hu hi bl c4 b8 l c cy ca cC ff;have fT:(w.alloc (.cells (madeCells z.cells (c.toNat*i.size)) e)).heap[w.heap.size]?=some (.cells (madeCells z.cells (c.toNat*i.size)) e (0,0)):=l8 _ _;have dN:(madeCells z.cells (c.toNat*i.size)).size=c.toNat*i.size:=by simp[madeCells]
     have ua:=aU.il d q' [] (k:=i.size) (cap:=c.toNat) (es:=List.replicate l.toNat (z.cells.toList.map .v)) (w1:=w.alloc (.cells (madeCells z.cells (c.toNat*i.size)) e))
      ((fP.refl _ _).alloc (ga _) _) fT (by simp;omega) (by omega) (fun e' he=>by rw[List.eq_of_mem_replicate he];simp[kQ]) (fun x j qZ aG=>by
       obtain⟨ak,aG⟩:=ajz aG;rw[dr,bX]at aG;obtain⟨sa,iL,rfl⟩:=aG;have bg:j<z.cells.size:=by
        have:=(fy.1 iL).1;simpa using this
       refine⟨sa,?_,.v sa,?_,rfl,fun s ai=>by cases ai⟩
       ·rw[kQ,OT z.cells c.toNat x j (by omega) bg];simpa using iL
       have:sa.oneCell'=true:=by
        have h1:=Array.all_eq_true'.1 j6;exact h1 sa (by simpa using fl iL)
       simp[az.hM,this])
     simp only[List.length_replicate]at ua;exact⟨_,_,e5,_,_,ua.1.put (p:=.one (.J (.own d) i.size (List.replicate l.toNat (z.cells.toList.map .v)))) ua.2⟩
    cases h
   cases h
  cases h
 cases h
end Go.Sx
namespace Go.Sx
open Go.RowKit
def l9(k:Nat):Nat->List az->List (List az)
 | 0,_=>[]
 | n+1,ls=>ls.take k::l9 k n (ls.drop k)
theorem HV(k:Nat):∀(n:Nat) (ls:List az) (i:Nat),(l9 k n ls)[i]?=if i<n then some ((ls.drop (i*k)).take k) else none
 | 0,ls,i=>by simp[l9]
 | n+1,ls,0=>by simp[l9]
 | n+1,ls,i+1=>by
  simp only[l9,nD,HV k n];by_cases h:i<n
  ·rw[bM h,bM (by omega),List.drop_drop]
   congr 3
   rw[gB];omega
  rw[bG h,bG (by omega)]
theorem OU(k:Nat):∀(n:Nat) (ls:List az),(l9 k n ls).length=n
 | 0,_=>rfl
 | n+1,ls=>by simp[l9,OU k n]
def kc(i:Nat):Nat->List az->gR
 | _,[]=>[]
 | j,l::ls=>match l.tok with
  | some s=>(s,(i,j))::kc i (j+1) ls
  | none=>kc i (j+1) ls
def qs:Nat->List (List az)->gR
 | _,[]=>[]
 | i,e::es=>kc i 0 e++qs (i+1) es
def wy(t:Nat)(ms:gR):Bool:=decide (t<cX)&&ms.all fun x=>x.1≠t&&(match ms.at x.1 with | some p=>p.1==x.2.1&&p.2==x.2.2 | none=>false)
theorem HW(i:Nat):∀(ls:List az) (j0 j:Nat) (l:az) (s:Nat),ls[j]?=some l->l.tok=some s->(s,(i,j0+j))∈kc i j0 ls
 | [],_,_,_,_,h,_=>by simp at h
 | fo::ls,j0,0,l,s,h,ai=>by
  simp at h;subst h;simp only[kc,ai];exact j1
 | fo::ls,j0,j+1,l,s,h,ai=>by
  have:=HW i ls (j0+1) j l s (by simpa using h) ai;rw[show j0+1+j=j0+(j+1) by omega]at this;simp only[kc];split
  ·exact hQ _ this
  exact this
theorem OV:∀(es:List (List az)) (i0 i j:Nat) (e:List az) (l:az) (s:Nat),es[i]?=some e->e[j]?=some l->l.tok=some s->(s,(i0+i,j))∈qs i0 es
 | [],_,_,_,_,_,_,h,_,_=>by simp at h
 | bB::es,i0,0,j,e,l,s,h,ap,ai=>by
  simp at h;subst h;simp only[qs];have:=HW i0 bB 0 j l s ap ai;rw[dF]at this;exact hP _ this
 | bB::es,i0,i+1,j,e,l,s,h,ap,ai=>by
  have:=OV es (i0+1) i j e l s (by simpa using h) ap ai;rw[show i0+1+i=i0+(i+1) by omega]at this;simp only[qs];exact iC _ this
variable{ms:gR}
theorem ajA{t:Nat}(h:wy t ms=true):t<cX:=by
 unfold wy at h;rw[cF,cW]at h;exact h.1
theorem ajB{t:Nat}(h:wy t ms=true){s:Nat}{p:Nat×Nat}(hm:(s,p)∈ms):s≠t/\ms.at s=some p:=by
 unfold wy at h;rw[cF]at h;have:=fx.1 h.2 _ hm;simp only[cF,cW]at this;refine⟨this.1,?_⟩;have U:=this.2;split at U
 ·rename_i pk e;simp only[cF,jL]at U;rw[e]
  congr 1
  exact Prod.ext U.1 U.2
 cases U
def y7(P:Program)(st:aD)(d:Nat)(t:TypeId)(len:Nat)(parts:List (Nat×Operand))(ans:List b4):Stepped:=
 match P.underlying t with
 | some (.slice e)=>
  match P.info? e with
  | some i=>
   match i.zero with
   | some z=>
    if i.size=z.cells.size/\0<i.size/\len*i.size<=16777216 then
     match pX (fun x=>some (x*i.size,i.size)) ((List.replicate len (z.cells.toList.map az.v)).flatten) (parts.map fun x=>(x.1,st.bh x.2)) with
     | some r=>
      let ls:=l9 i.size len r
      match ls.mapM (fun x=>x.mapM az.hM) with
      | some es=>if wy d (qs 0 ls) then
        some (⟨(st.il d (qs 0 ls)).env.set d (.one (.J (.own d) i.size es)),(st.il d (qs 0 ls)).boxes⟩,ans,[]) else none
      | none=>none
     | none=>none
    else none
   | none=>none
  | none=>none
 | _=>none
def Bh(P:Program)(st:aD)(d:Nat)(t:TypeId)(len:Nat)(parts:List (Nat×Operand)):Option (Nat×List (List D)×gR):=
 match P.underlying t with
 | some (.slice e)=>
  match P.info? e with
  | some i=>
   match i.zero with
   | some z=>
    if i.size=z.cells.size/\0<i.size/\len*i.size<=16777216 then
     match pX (fun x=>some (x*i.size,i.size)) ((List.replicate len (z.cells.toList.map az.v)).flatten) (parts.map fun x=>(x.1,st.bh x.2)) with
     | some r=>
      match (l9 i.size len r).mapM (fun x=>x.mapM az.hM) with
      | some es=>if wy d (qs 0 (l9 i.size len r)) then some (i.size,es,qs 0 (l9 i.size len r)) else none
      | none=>none
     | none=>none
    else none
   | none=>none
  | none=>none
 | _=>none
theorem ajC{P:Program}{st:aD}{d:Nat}{t:TypeId}{len:Nat}{parts:List (Nat×Operand)}{k:Nat}{es:List (List D)}(h:Bh P st d t len parts=some (k,es,ms))(ans:List b4):
  y7 P st d t len parts ans=some (⟨(st.il d ms).env.set d (.one (.J (.own d) k es)),(st.il d ms).boxes⟩,ans,[]):=by
 unfold Bh at h;unfold y7;split at h
 ·rename_i e h1
  try rw[h1]
  split at h
  ·rename_i i U
   try simp only[U]
   split at h
   ·rename_i z ax
    try simp only[ax]
    split at h
    ·rename_i al
     try rw[bM al]
     split at h
     ·rename_i r aJ
      try simp only[aJ]
      split at h
      ·rename_i ck aY
       try simp only[aY]
       split at h
       ·rename_i bx;simp only[aS,bq]at h;obtain⟨rfl,rfl,rfl⟩:=h
        try rw[bM bx]
       cases h
      cases h
     cases h
    cases h
   cases h
  cases h
 cases h
theorem l'{α β:Type}{f:α->Option β}:∀{xs:List α} {ys:List β},xs.mapM f=some ys->ys.length=xs.length/\∀(i:Nat) (y:β),ys[i]?=some y->∃x,xs[i]?=some x/\f x=some y
 | [],ys,h=>by simp at h;subst h;exact⟨rfl,fun i y bD=>by simp at bD⟩
 | x::xs,ys,h=>by
  rw[xv]at h;cases e:f x with
  | none=>simp[e]at h
  | some D1=>
   cases e2:xs.mapM f with
   | none=>simp[e,e2]at h
   | some EF=>
    simp[e,e2]at h;subst h;obtain⟨h1,U⟩:=l' e2;refine⟨by simp[h1],fun i y bD=>?_⟩;cases i with
    | zero=>simp at bD;subst bD;exact⟨x,rfl,e⟩
    | succ i=>exact U i y (by simpa using bD)
theorem OW{α:Type}(e:List α):∀(n i j:Nat),i<n->j<e.length->((List.replicate n e).flatten)[i*e.length+j]?=e[j]?
 | 0,i,j,hi,_=>by omega
 | n+1,0,j,_,bg=>by
  rw[List.replicate_succ,List.flatten_cons,ov,Nat.zero_mul,dF,bM bg]
 | n+1,i+1,j,hi,bg=>by
  rw[List.replicate_succ,List.flatten_cons,ov,bG (by rw[gB];omega)];have:=OW e n i j (by omega) bg;rw[<-this]
  congr 1
  rw[gB];omega
theorem cr.buildSlice{P:Program}{w0:ee}{st bn:aD}{a:Act}{w:World}{ω:Own}{τ:Nat->Nat×Value}{d:Nat}{t:TypeId}{len:Nat}{parts:Array (Nat×Operand)}{ans b':List b4}{obs:List Prop}
  (aU:cr w0 st a w ω τ) (h:y7 P st d t len parts.toList ans=some (bn,b',obs)):
  ∃z aM,(Instr.buildSlice t len (parts.map fun (i,x)=>(i,a.eval x))).run P w=.ok z aM/\Rel w0 bn (a.put (some d) z) aM:=by
 unfold y7 at h;split at h
 ·rename_i e hu;split at h
  ·rename_i i hi;split at h
   ·rename_i z bl;split at h
    ·rename_i al;obtain⟨kQ,ko,j6⟩:=al;split at h
     ·rename_i r aH;simp only at h;split at h
      ·rename_i es BI;split at h
       ·rename_i M8;simp only[aS,bq]at h;obtain⟨rfl,_,_⟩:=h;have l3:(z.cells.toList.map az.v).length=i.size:=by simp[kQ]
        have atS:((List.replicate len (z.cells.toList.map az.v)).flatten).length=len*i.size:=by simp[kQ]
        have GZ:jv (Sat w ω τ) ((List.replicate len (z.cells.toList.map az.v)).flatten) (madeCells z.cells (len*i.size)):=by
         refine⟨by simp[madeCells,kQ],fun x l ap=>?_⟩;have bJ:x<len*i.size:=by
          have:=(fy.1 ap).1;omega
         have ak:x=(x / i.size)*i.size+x % i.size:=by rw[Nat.mul_comm];exact (Nat.div_add_mod x i.size).symm
         have aK:x / i.size<len:=Nat.div_lt_of_lt_mul (by rw[Nat.mul_comm];exact bJ);have hm:x % i.size<i.size:=Nat.mod_lt _ ko;have h1:=OW (z.cells.toList.map az.v) len (x / i.size) (x % i.size) aK (by omega);rw[l3,<-ak,ap]at h1;have U:=h1.symm;rw[dr,bX]at U;obtain⟨u,iL,rfl⟩:=U;refine⟨u,?_,rfl⟩;have ax:=OT z.cells len (x / i.size) (x % i.size) aK (by omega);rw[<-kQ,<-ak]at ax;rw[ax];simpa using iL
        obtain⟨out,F7,BQ⟩:=HH (vals:=parts.toList.map fun x=>(x.1,a.eval x.2)) (by simp) (fun j fm p bg=>by
         rw[dr,bX]at bg;obtain⟨⟨i2,x⟩,ak,e⟩:=bg;simp only[bq]at e;obtain⟨rfl,rfl⟩:=e;exact⟨a.eval x,by simp only[dr,ak,qL],aU.bh x⟩) aH GZ
        obtain⟨je,cR⟩:=l' BI;have hlen:es.length=len:=by rw[je,OU]
        have Wg:∀x j qZ,cQ es x j=some qZ->∃l,x<len/\j<i.size/\r[x*i.size+j]?=some l/\l.hM=some qZ/\∃tX,(l9 i.size len r)[x]?=some tX/\tX[j]?=some l:=by
         intro x j qZ aG;unfold cQ at aG;cases ak:es[x]? with
         | none=>simp[ak]at aG
         | some e'=>
          rw[ak,ox]at aG;obtain⟨tX,h1,U⟩:=cR x e' ak;obtain⟨ax,aJ⟩:=l' U;obtain⟨l,aY,bx⟩:=aJ j qZ aG;have V0:=h1;rw[HV]at h1;split at h1
          ·simp only[aS]at h1;subst h1;have V1:=aY;rw[jX]at aY;split at aY
           ·rw[k7]at aY;exact⟨l,‹_›,‹_›,aY,bx,_,V0,V1⟩
           cases aY
          cases h1
        have Nl:r.length=len*i.size:=by
         have:=BQ.1;have U:out.size=(madeCells z.cells (len*i.size)).size:=by
          have:=BQ.1;have aJ:∀(fo:List (Nat×aE)) (ij kF:List az),pX (fun x=>some (x*i.size,i.size)) ij fo=some kF->kF.length=ij.length:=by
           intro fo;induction fo with
           | nil=>intro ij kF h;simp[pX]at h;rw[h]
           | cons x fo eH=>
            intro ij kF h;obtain⟨ou,kf⟩:=x;simp only[pX]at h;split at h
            ·split at h
             ·rename_i bH;rw[eH _ _ h,HG (by omega)]
             cases h
            cases h
          have:=aJ _ _ _ aH;simp[madeCells];omega
         simp[madeCells]at U;omega
        have fT:(w.alloc (.cells out e)).heap[w.heap.size]?=some (.cells out e (0,0)):=l8 _ _;have ua:=aU.il d (ajA M8) (qs 0 (l9 i.size len r)) (k:=i.size) (cap:=len) (es:=es) (w1:=w.alloc (.cells out e))
         ((fP.refl _ _).alloc (ga _) _) fT (by omega) (by rw[BQ.1,Nl];exact ga _)
         (fun e' he=>by
          obtain⟨x,ak⟩:=ow.1 he;obtain⟨tX,h1,U⟩:=cR x e' ak;obtain⟨ax,_⟩:=l' U;rw[ax];rw[HV]at h1;split at h1
          ·simp only[aS]at h1;subst h1;have:(x+1)*i.size<=len*i.size:=gW _ (by omega);rw[gB]at this;simp;omega
          cases h1)
         (fun x j qZ aG=>by
          obtain⟨l,h1,U,ax,aJ,tX,aY,bx⟩:=Wg x j qZ aG;obtain⟨u,bN,db⟩:=BQ.2 _ _ ax;refine⟨u,bN,l,aJ,db,fun s ai=>?_⟩;have:=OV (l9 i.size len r) 0 x j tX l s aY bx ai;rw[dF]at this;exact ajB M8 this)
        rw[hlen]at ua;refine⟨_,_,?_,_,_,ua.1.put (p:=.one (.J (.own d) i.size es)) ua.2⟩;have p9:((Array.range (len*i.size)).map (fun x=>(if len*i.size=0 then (#[]:Array Value) else z.cells)[x % (if len*i.size=0 then (#[]:Array Value) else z.cells).size]!))=madeCells z.cells (len*i.size):=by
         unfold madeCells;by_cases b5:len*i.size=0
         ·simp[b5]
         simp[b5]
        have e:(Array.map (fun (x:Nat×Operand)=>(x.1,a.eval x.2)) parts).toList=parts.toList.map fun x=>(x.1,a.eval x.2):=by simp
        have W4:¬(len*i.size>2 ^ 24):=by have:(2:Nat) ^ 24=16777216:=(by decide);omega
        simp only[Instr.buildSlice,Sem.run_bind,run_underlying hu,Result.andThen_ok,sizeOf,typeInfo,run_program,hi,Sem.run_pure];rw[bG W4];by_cases b5:len*i.size=0
        ·simp only[b5,gO]at p9 ⊢;simp only[Sem.run_pure,Sem.run_bind,Result.andThen_ok,e];rw[b5]at F7;rw[p9,F7];simp[newRow]
        simp only[b5,lK]at p9 ⊢;simp only[zeroValue,typeInfo,Sem.run_bind,run_program,Result.andThen_ok,hi,bl,Sem.run_pure,e];rw[p9,F7];simp[newRow]
       cases h
      cases h
     cases h
    cases h
   cases h
  cases h
 cases h
end Go.Sx
namespace Go.Sx
open Go.RowKit
variable{w:World}{ω a7:Own}{k n:Nat}{es:List (List D)}
theorem bQ.TC{aM:World}{R hS:List (Nat×Nat)->c0->Prop}{b off cap:Nat}(h:bQ w ω R (.J k es) (.slice (some ⟨b,off,none⟩) n cap))
  {arr b9:Array Value} {ty:TypeId} {cL:Nat×Nat} (aw:w.heap[b]?=some (.cells arr ty cL)) (eh:aM.heap[b]?=some (.cells b9 ty cL)) (dN:b9.size=arr.size)
  (V5:∀x,x<off+n*k->b9[x]?=arr[x]?) (Bx:∀o,o=ω b->R [] o->hS [] (a7 b)) (l1:∀c p q,c<w.heap.size->R (p::q) (ω c)->hS (p::q) (a7 c)/\aM.heap[c]?=w.heap[c]?):
  bQ aM a7 hS (.J k es) (.slice (some ⟨b,off,none⟩) n cap):=by
 generalize bD:Value.slice (some ⟨b,off,none⟩) n cap=y at h;cases h with
 | nil=>cases bD;exact .nil _ _ _
 | row R k es fQ ph oH jx jJ Fh us gH dG al ai hk hu aG=>
  simp only[Value.slice.injEq,aS,Addr.mk.injEq]at bD;obtain⟨⟨rfl,rfl,_⟩,rfl,rfl⟩:=bD;rw[aw]at gH;simp only[aS,Obj.cells.injEq]at gH;obtain⟨rfl,rfl,rfl⟩:=gH;refine .row hS k es b off cap b9 ty cL us eh (Bx _ rfl dG) al (by omega) hk (fun i j d eb=>?_) (fun i j d eb=>(aG i j d eb).frame fun c q oU aK=>l1 c _ _ oU aK);rw[V5,hu i j d eb];have ui:i<es.length/\j<k:=by
   unfold cQ at eb;grind
  have:(i+1)*k<=es.length*k:=gW _ ui.1;grind
variable{i j:Nat}
theorem rK{d:D}(hk:∀e∈es,e.length=k)(h:cQ es i j=some d):i<es.length/\j<k:=by
 unfold cQ at h;grind
variable{bL:List (List D)}
theorem y8:cQ (es++bL) i j=if i<es.length then cQ es i j else cQ bL (i-es.length) j:=by
 unfold cQ;grind
theorem OX(hk:∀e∈es,e.length=k)(hi:i<es.length)(bg:j<k):∃d,cQ es i j=some d:=by
 simp_all[qM,cQ]
def iu(t:Nat)(dD:Option Nat)(n:Nat):c0->c0
 | .tok s q=>if dD=some s then (match q with | []=>.bt | p::dE=>.tok t ((n+p.1,p.2)::dE)) else .tok s q
 | o=>o
def gX(t:Nat)(dD:Option Nat):Tag->Option Tag
 | .free=>some .free
 | .own s=>if s=t then some (.ro t) else if dD=some s then none else some (.own s)
 | .ro s=>if s=t then none else if dD=some s then none else some (.ro s)
structure Src (P:Program) (w:World) (ω:Own) (k:Nat) (bL:List (List D)) (dD:Option Nat) (y:Value) (news:List Value):Prop where
 len:news.length=bL.length*k
 rows:∀e∈bL,e.length=k
 one:∀u∈news,u.oneCell'=true
 cell:∀i j d,cQ bL i j=some d->∃u,news[i*k+j]?=some u/\((∃x,d=.v x/\u=x)\/∃s,dD=some s/\bQ w ω (fun q=>(Tag.own s).R ((i,j)::q)) d u)
 shape:((∃a,y=.slice a 0 0)/\bL=[])\/∃b o c,y=.slice (some ⟨b,o,none⟩) bL.length c/\∀j v,news[j]?=some v->w.cell? ((⟨b,o,none⟩:Addr).add j)=some v
variable{t:Nat}{dD:Option Nat}
theorem HX{o:c0}{id:Nat}:iu t dD n o=.box id<->o=.box id:=by
 cases o with
 | bt=>simp[iu]
 | box i=>simp[iu]
 | tok s q=>
  simp only[iu];grind
theorem u5{s:Nat}{q:List (Nat×Nat)}(h:dD≠some s):iu t dD n (.tok s q)=.tok s q:=by simp[iu,h]
theorem rL{w aM:World}{g dW:Tag}(jz:dD≠some t)(av:gX t dD g=some dW)(c3:g≠.own t)
  (c7:∀c,c<w.heap.size->ω c≠.tok t []->a7 c=iu t dD n (ω c)/\aM.heap[c]?=w.heap[c]?):
  ∀c q,c<w.heap.size->g.R q (ω c)->dW.R q (a7 c)/\aM.heap[c]?=w.heap[c]?:=by
 intro c q al aH;cases g with
 | free=>
  simp only[gX,aS]at av;subst av;simp only[Tag.R]at aH;obtain⟨h1,U⟩:=c7 c al (by rw[aH];simp);rw[h1,aH];exact⟨rfl,U⟩
 | own s=>
  simp only[gX]at av;have ai:s≠t:=fun e=>c3 (by rw[e])
  rw[bG ai]at av;split at av
  ·cases av
  rename_i hm;simp only[aS]at av;subst av;simp_all[Tag.R,u5]
 | ro s=>
  simp only[gX]at av;split at av
  ·cases av
  rename_i ai;split at av
  ·cases av
  rename_i hm;simp only[aS]at av;subst av;simp only[Tag.R]at aH;rcases aH with aH | ⟨dE,aH⟩
  ·obtain⟨h1,U⟩:=c7 c al (by rw[aH];simp);rw[h1,aH];exact⟨.inl rfl,U⟩
  obtain⟨h1,U⟩:=c7 c al (by grind);rw[h1,aH,u5 hm];exact⟨.inr ⟨dE,rfl⟩,U⟩
def fE(τ:Nat->Nat×Value)(t k:Nat)(z:Value):Nat->Nat×Value:=fun s=>if s=t then (k,z) else τ s
variable{τ:Nat->Nat×Value}
theorem Ci{k:Nat}{z:Value}{g dW:Tag}{y:Nat×Value}(av:gX t dD g=some dW)(bD:g.dJ τ y):dW.dJ (fE τ t k z) y:=by
 cases g with
 | free=>simp only[gX,aS]at av;subst av;exact trivial
 | own s=>
  simp only[gX]at av;split at av
  ·simp only[aS]at av;subst av;exact trivial
  split at av
  ·cases av
  simp only[aS]at av;subst av;simp_all[Tag.dJ,fE,bG]
 | ro s=>
  simp only[gX]at av;split at av
  ·cases av
  split at av
  ·cases av
  simp only[aS]at av;subst av;exact trivial
theorem E1{aM:World}{z:Value}(hZ:t<cX)(jz:dD≠some t)
  (c7:∀c,c<w.heap.size->ω c≠.tok t []->a7 c=iu t dD n (ω c)/\aM.heap[c]?=w.heap[c]?)
  (q8:∀id b,ω b=.box id->a7 b=.box id)
  (o2:∀es y,bQ w ω (Tag.own t).R (.J (τ t).1 es) y->y=(τ t).2->bQ aM a7 (Tag.ro t).R (.J (τ t).1 es) y):
  ∀l v,Sat w ω τ l v->Sat aM a7 (fE τ t k z) (l.ct (gX t dD) fun _=>true) v:=by
 intro l v ai;cases l with
 | cj=>exact trivial
 | v x=>exact ai
 | a' c=>exact ai
 | ptr id off=>
  simp only[az.ct,gO];obtain⟨b,aw,e⟩:=ai;exact⟨b,q8 id b aw,e⟩
 | eX s vs=>
  simp only[az.ct];split
  ·rename_i r6 av;split
   ·rename_i Ge;subst Ge;have c3:Tag.own r6≠.own t:=by
     grind[Tag.own.injEq,gX]
    obtain⟨b,ty,arr,e,aY,ax,a8,bz⟩:=ai;have bJ:b<w.heap.size:=(iE.1 ax).1;have hk:=rL (w:=w) (aM:=aM) jz av c3 c7 b [] bJ aY;refine⟨b,ty,arr,e,hk.1,hk.2.trans ax,Cn (fun c u al=>?_) a8 bz⟩;cases c with
    | cj=>exact trivial
    | v x=>exact al
    | J g ch es=>
     simp only[eD.ct];cases av:gX t dD g with
     | none=>exact trivial
     | some dW=>
      by_cases c3:g=.own t
      ·subst c3;simp only[gX,gO,aS]at av;subst av;obtain⟨h1,U⟩:=al;simp only[Tag.dJ]at U;have e1:(τ t).1=ch:=by rw[U]
       have e2:(τ t).2=u:=by rw[U]
       exact⟨by grind,aa⟩
      exact⟨al.1.frame fun c q al aK=>rL jz av c3 c7 c q al aK,Ci av al.2⟩
   exact trivial
  exact trivial
 | aO s i j b8 es m=>
  simp only[az.ct];split
  ·rename_i r6 av;split
   ·rename_i Ge;subst Ge;have c3:Tag.own r6≠.own t:=by
     grind[Tag.own.injEq,gX]
    obtain⟨u,hu,h1,hm⟩:=ai;refine⟨u,hu,h1.frame fun c q al aK=>rL jz av c3 c7 c _ al aK,fun bH=>?_⟩;obtain⟨kT,b,off,len,cap,arr,ty,cL,U,aY,ax,aJ⟩:=hm bH;have bJ:b<w.heap.size:=(iE.1 ax).1;have hk:=rL (w:=w) (aM:=aM) jz av c3 c7 b [] bJ aY;exact⟨kT,b,off,len,cap,arr,ty,cL,Ci (k:=k) (z:=z) av U,hk.1,hk.2.trans ax,aJ⟩
   exact trivial
  exact trivial
 | fR f ids=>
  simp only[az.ct];split
  ·obtain⟨bs,e,a8,hi⟩:=ai;refine⟨bs,e,a8,fun i id gh=>?_⟩;grind
  grind
 | ha ds off=>
  obtain⟨b,e,aH⟩:=ai;exact⟨b,e,aH.frame fun c q al aK=>rL (g:=.free) (dW:=.free) jz rfl (by simp) c7 c q al aK⟩
 | fd d=>exact bQ.frame ai fun c q al aK=>rL (g:=.free) (dW:=.free) jz rfl (by simp) c7 c q al aK
 | c' t0 dq dx=>exact⟨bQ.frame ai.1 fun c q al aK=>rL (g:=.free) (dW:=.free) jz rfl (by simp) c7 c q al aK,fun bU=>(show fE τ t k z t0=τ t0 by simp only[fE];grind).trans (ai.2 bU)⟩
 | J g ch es=>
  simp only[az.ct];cases av:gX t dD g with
  | none=>exact trivial
  | some dW=>
   by_cases c3:g=.own t
   ·subst c3;simp only[gX,gO,aS]at av;subst av;obtain⟨h1,U⟩:=ai;simp only[Tag.dJ]at U;have e1:(τ t).1=ch:=by rw[U]
    have e2:(τ t).2=v:=by rw[U]
    exact⟨by grind,aa⟩
   exact⟨ai.1.frame fun c q al aK=>rL jz av c3 c7 c q al aK,Ci av ai.2⟩
 | cB g ch es i j=>
  simp only[az.ct];cases av:gX t dD g with
  | none=>exact trivial
  | some dW=>
   obtain⟨b,off,cap,e,hi,aH,bH⟩:=ai;by_cases c3:g=.own t
   ·subst c3;simp only[gX,gO,aS]at av;subst av;simp only[Tag.dJ]at bH;have e1:(τ t).1=ch:=by rw[bH]
    have e2:(τ t).2=Value.slice (some ⟨b,off,none⟩) es.length cap:=by rw[bH]
    exact⟨b,off,cap,e,hi,by grind,aa⟩
   exact⟨b,off,cap,e,hi,aH.frame fun c q al aK=>rL jz av c3 c7 c q al aK,Ci av bH⟩
def aD.vC(st:aD)(t:Nat)(dD:Option Nat):aD:=st.map (az.ct (gX t dD) fun _=>true)
variable{y:Value}
theorem OY{P:Program}{t ty e:TypeId}{i:TypeInfo}(bU:P.underlying t=some (.slice e))(hi:P.info? e=some i)(w:World){e0:Value}
  (bD:∃a n c,y=.slice a n c/\n<=c) (ks:∃a c,e0=.slice a 0 c):
  (Builtin.append_ #[t,t] ty #[y,e0]).run P w=.ok y w:=by
 obtain⟨a,n,c,rfl,a8⟩:=bD;obtain⟨a2,c2,rfl⟩:=ks;cases a<;>cases a2<;>
  simp[Builtin.append_,run_underlying bU,sizeOf,typeInfo,hi,Builtin.lenOf,Builtin.firstCells,loadCells,loadCellsFrom,storeCells, *]
theorem HY{P:Program}{t ty e:TypeId}{i:TypeInfo}(bU:P.underlying t=some (.slice e))(hi:P.info? e=some i)(w:World)
  (b off n cap:Nat) (arr:Array Value) (hN:TypeId) (av:w.heap[b]?=some (.cells arr hN (0,0)))
  (ci:Addr) (m c:Nat) (news:List Value) (ap:news.length=m*i.size) (oZ:∀j u,news[j]?=some u->w.cell? (ci.add j)=some u) (h1:∀u∈news,u.oneCell'=true)
  (o6:n+m<=cap) (dX:off+n*i.size+news.length<=arr.size):
  (Builtin.append_ #[t,t] ty #[.slice (some ⟨b,off,none⟩) n cap,.slice (some ci) m c]).run P w=
   .ok (.slice (some ⟨b,off,none⟩) (n+m) cap) (w.setRow b (arr.toList.take (off+n*i.size)++news++arr.toList.drop (off+n*i.size+news.length)).toArray):=by
 have b0:=run_firstCells_some (P:=P) w i.size m ci m c news ap oZ;have eP:=run_storeCells_at P b (off+n*i.size) hN news 0 arr w av (by grind) h1;simp only[mq]at eP;simp[Builtin.append_,run_underlying bU,sizeOf,typeInfo,hi,Builtin.lenOf,o6,b0,pr,eP]
theorem Src.Mv{P:Program}{aM:World}{a7:Own}{n:Nat}{news:List Value}(h:Src P w ω k bL dD y news)(jz:dD≠some t)
  (c7:∀c,c<w.heap.size->ω c≠.tok t []->a7 c=iu t dD n (ω c)/\aM.heap[c]?=w.heap[c]?) {i j:Nat} {d:D} (aG:cQ bL i j=some d):
  ∃u,news[i*k+j]?=some u/\bQ aM a7 (fun q=>(Tag.own t).R ((n+i,j)::q)) d u:=by
 obtain⟨u,h1,U⟩:=h.cell i j d aG;refine⟨u,h1,?_⟩;rcases U with⟨x,rfl,rfl⟩ | ⟨s,ai,aH⟩
 ·exact .v _ _ (h.one _ (fl h1))
 refine aH.frame fun c q al aK=>?_
 grind[Tag.R,iu]
theorem cr.append{P:Program}{w0:ee}{st:aD}{a:Act}(aU:cr w0 st a w ω τ){e0:Value}{news:List Value}
  (hp:Sat w ω τ (.J (.own t) k es) y) (hY:Src P w ω k bL dD e0 news) (jz:dD≠some t) {ty hb e:TypeId} {i:TypeInfo} {z:Value}
  (bU:P.underlying hb=some (.slice e)) (hi:P.info? e=some i) (bl:i.zero=some z) (hk:i.size=k) (n1:z.cells.size=k)
  (gG:(es.length+bL.length)*i.bytes<=140737488355328) (gH:es.length+bL.length<=9223372036854775807) (hZ:t<cX):
  ∃r aM a7,(Builtin.append_ #[hb,hb] ty #[y,e0]).run P w=.ok r aM/\cr w0 (st.vC t dD) a aM a7 (fE τ t k r)/\Sat aM a7 (fE τ t k r) (.J (.own t) k (es++bL)) r:=by
 subst hk;obtain⟨aH,bH⟩:=hp;simp only[Tag.dJ]at bH;have e1:(τ t).1=i.size:=by rw[bH]
 have e2:(τ t).2=y:=by rw[bH]
 have FO:∀r:Value,∀s,cX<=s->fE τ t i.size r s=τ s:=fun r s ai=>by simp only[fE];grind
 have WM:(Tag.own t).dJ (fE τ t i.size y) (i.size,y):=by simp[Tag.dJ,fE]
 by_cases hm:bL.length=0
 ·
  have FN:bL=[]:=xt hm;subst FN
  let a7:Own:=fun c=>iu t dD es.length (ω c)
  have c7:∀c,c<w.heap.size->ω c≠.tok t []->a7 c=iu t dD es.length (ω c)/\w.heap[c]?=w.heap[c]?:=fun c _ _=>⟨rfl,rfl⟩
  have e5:(Builtin.append_ #[hb,hb] ty #[y,e0]).run P w=.ok y w:=by
   refine OY bU hi w ?_ ?_
   ·cases aH with
    | nil _ _ a0=>grind
    | row R k es b off cap arr ty cL us aw dG al ai hk hu aG=>grind
   rcases hY.shape with⟨⟨a,h⟩,_⟩ | ⟨b,o,c,h,_⟩
   ·grind
   grind
  refine⟨y,w,a7,e5,aU.dT _ (E1 hZ jz c7 (fun id b aw=>by grind[iu]) ?_) aU.below ?_ ?_ ?_ (FO _),?_,WM⟩
  ·intro ck f' et _;refine et.frame fun c q al aK=>⟨?_,rfl⟩
   grind[Tag.R,u5]
  ·intro b aw;have:ω b≠.bt:=fun e=>by grind[iu]
   exact aU.owned b this
  ·intro id b aw;exact⟨by grind[iu],rfl⟩
  ·intro id b aw;exact HX.1 aw
  rw[k'];refine aH.frame fun c q al aK=>⟨?_,rfl⟩
  grind[Tag.R,u5]
 have ym:0<bL.length:=by omega
 rcases hY.shape with⟨_,h⟩ | ⟨a',k6,jo,rfl,oZ⟩
 ·grind
 have grown:∀(w1:World) (b9:Array Value) (r:Value) (kN:Nat),fP w.heap.size w w1->w1.heap[w.heap.size]?=some (.cells b9 e (0,0))->r=.slice (some ⟨w.heap.size,0,none⟩) (es.length+bL.length) kN->
   es.length+bL.length<=kN->kN*i.size<=b9.size->(∀fm j d,cQ es fm j=some d->∃u,b9[fm*i.size+j]?=some u/\∃R:List (Nat×Nat)->c0->Prop,(∀q o,R q o->o=.tok t ((fm,j)::q))/\bQ w ω R d u)->
   (∀x u,news[x]?=some u->b9[es.length*i.size+x]?=some u)->(∀e∈es,e.length=i.size)->
   ∃a7,cr w0 (st.vC t dD) a w1 a7 (fE τ t i.size r)/\Sat w1 a7 (fE τ t i.size r) (.J (.own t) i.size (es++bL)) r:=by
  intro w1 b9 r kN j5 fT F9 fS dN hold BO uq;subst F9
  let a7:Own:=fun c=>if c=w.heap.size then .tok t [] else @ite _ (ω c=.tok t []) (Classical.propDecidable _) .bt (iu t dD es.length (ω c))
  have atT:ω w.heap.size=.bt:=aU.owned.fresh (ga _);have c7:∀c,c<w.heap.size->ω c≠.tok t []->a7 c=iu t dD es.length (ω c)/\w1.heap[c]?=w.heap[c]?:=by
   intro c al c3;refine⟨?_,j5.block c al⟩;grind
  have mQ:a7 w.heap.size=.tok t []:=by simp[a7]
  have l1:∀c p q,c<w.heap.size->ω c=.tok t (p::q)->a7 c=.tok t (p::q):=by
   grind[u5]
  refine⟨a7,aU.dT _ (E1 hZ jz c7 ?_ ?_) (aU.below.next j5) ?_ ?_ ?_ (FO _),?_,by simp[Tag.dJ,fE]⟩
  ·intro id b aw;have bJ:=aU.owned.lt (b:=b) (by simp[aw]);rw[(c7 b bJ (by rw[aw];simp)).1,aw];rfl
  ·intro ck f' et _;refine et.frame fun c q al aK=>⟨?_,j5.block c al⟩
   simp only[Tag.R]at aK ⊢;cases q with
   | nil=>grind
   | cons p q=>grind
  ·intro b aw;by_cases vU:b=w.heap.size
   ·subst vU;exact⟨.inl aU.below.size,b9,e,fT⟩
   have:ω b≠.bt:=by
    intro e';simp only[a7]at aw;simp_all[bG,iu]
   obtain⟨ax,jx,jJ,aJ⟩:=aU.owned b this;grind
  ·intro id b aw;have bJ:=aU.owned.lt (b:=b) (by simp[aw]);obtain⟨h1,U⟩:=c7 b bJ (by rw[aw];simp);exact⟨by rw[h1,aw];rfl,U⟩
  ·intro id b aw;by_cases vU:b=w.heap.size
   ·grind
   simp only[a7]at aw;rw[bG vU]at aw;split at aw
   ·cases aw
   exact HX.1 aw
  have eW:∀x j d,cQ (es++bL) x j=some d->∃u,b9[x*i.size+j]?=some u/\bQ w1 a7 (fun q=>(Tag.own t).R ((x,j)::q)) d u:=by
   intro x j d aG;rw[y8]at aG;split at aG
   ·obtain⟨u,h1,R,dG,U⟩:=hold x j d aG;refine⟨u,h1,U.frame fun c q al aK=>⟨?_,j5.block c al⟩⟩;exact l1 c _ _ al (dG q _ aK)
   rename_i ak;obtain⟨u,h1,U⟩:=hY.Mv (aM:=w1) (a7:=a7) (n:=es.length) jz c7 aG;refine⟨u,?_,?_⟩
   ·rw[<-BO _ u h1]
    congr 1
    have:x=es.length+(x-es.length):=by omega
    grind
   simp_all
  have hlen:(es++bL).length=es.length+bL.length:=kH;have o7:∀e∈es++bL,e.length=i.size:=by
   intro e' he;rcases mo.1 he with h | h
   ·grind
   exact hY.rows e' h
  have:=bQ.row (w:=w1) (ω:=a7) (Tag.own t).R i.size (es++bL) w.heap.size 0 kN b9 e (0,0) (fun x j=>b9.getD (x*i.size+j) undef) fT mQ (by omega) (by omega) o7
   (fun x j d aG=>by obtain⟨u,h1,_⟩:=eW x j d aG;simp_all)
   (fun x j d aG=>by obtain⟨u,h1,U⟩:=eW x j d aG;simp_all)
  grind
 generalize NB:y=D1 at aH;cases aH with
 | nil _ _ a0=>
  subst NB;simp only[dR,dF]at gG gH;have e5:(Builtin.append_ #[hb,hb] ty #[.slice a0 0 0,.slice (some ⟨a',k6,none⟩) bL.length jo]).run P w=
    .ok (.slice (some ⟨w.heap.size,0,none⟩) bL.length (grownCap w bL.length 0 e)) (w.drew.alloc (.cells (news.toArray++Builtin.zeroCells z.cells (grownCap w bL.length 0 e-bL.length)) e)):=by
   cases a0 with
   | none=>exact run_append_nil (P:=P) w hb ty e i z bU hi bl ⟨a',k6,none⟩ bL.length jo news hY.len oZ ym (by omega) (by omega)
   | some cc=>
    have:=run_append_grow (P:=P) w hb ty e i z bU hi bl cc 0 0 [] (by simp) (fun j v bz=>by simp at bz) ⟨a',k6,none⟩ bL.length jo news hY.len oZ (by omega) (by omega) (growslice_fits (by omega) (by grind));grind
  have nV:=grownCap_ge w bL.length 0 e;obtain⟨a7,h1,U⟩:=grown _ (news.toArray++Builtin.zeroCells z.cells (grownCap w bL.length 0 e-bL.length)) (.slice (some ⟨w.heap.size,0,none⟩) bL.length (grownCap w bL.length 0 e)) (grownCap w bL.length 0 e)
   (((fP.refl _ _).drew).alloc (ga _) _) (l8 _ _) (by simp) (by grind) (by
    simp only[sb,nB,size_zeroCells,hY.len,n1,<-gB];grind)
   (fun fm j d aG=>by grind[cQ]) (fun x u ak=>by
    grind) (fun e he=>by cases he)
  grind
 | row R k es b off cap arr hN cL us aw dG al ai gu hu aG=>
  have j4:ω b=.tok t []:=dG;obtain⟨um,sj,tA,gZ⟩:=aU.owned b (by grind);rw[aw]at gZ;simp only[aS,Obj.cells.injEq]at gZ;obtain⟨rfl,rfl,rfl⟩:=gZ;have ud:b<w.heap.size:=(iE.1 aw).1;by_cases o6:es.length+bL.length<=cap
  ·
   have hmul:(es.length+bL.length)*i.size<=cap*i.size:=gW _ o6;rw[gB]at hmul;have M':=hY.len;have dX:off+es.length*i.size+news.length<=arr.size:=by omega
   have e5:=HY (P:=P) (ty:=ty) bU hi w b off es.length cap arr hN aw ⟨a',k6,none⟩ bL.length jo news hY.len oZ hY.one o6 dX;generalize nS:(arr.toList.take (off+es.length*i.size)++news++arr.toList.drop (off+es.length*i.size+news.length)).toArray=b9 at e5;have hW:∀x:Nat,b9[x]?=if off+es.length*i.size<=x/\x<off+es.length*i.size+news.length then news[x-(off+es.length*i.size)]? else arr[x]?:=by
    intro x;rw[<-nS,nA,y6 (by grind)];simp
   have we:b9.size=arr.size:=by grind
   have j7:=setRow_heap w b arr b9 hN (0,0) aw
   let a7:Own:=fun c=>iu t dD es.length (ω c)
   have c7:∀c,c<w.heap.size->ω c≠.tok t []->a7 c=iu t dD es.length (ω c)/\(w.setRow b b9).heap[c]?=w.heap[c]?:=fun c _ c3=>
    ⟨rfl,setRow_other w b c b9 fun e=>c3 (by grind)⟩
   have mQ:a7 b=.tok t []:=by grind[u5]
   have l1:∀c p q,c<w.heap.size->ω c=.tok t (p::q)->a7 c=.tok t (p::q)/\(w.setRow b b9).heap[c]?=w.heap[c]?:=by
    intro c p q al aK;obtain⟨h1,U⟩:=c7 c al (by rw[aK];simp);rw[h1,aK,u5 jz];grind
   refine⟨_,_,a7,e5,aU.dT _ (E1 hZ jz c7 (fun id c ig=>by grind[iu]) ?_) ?_ ?_ ?_ ?_ (FO _),?_,by simp[Tag.dJ,fE]⟩
   ·intro ck f' et uh;rw[uh,e2,NB]at et ⊢;rw[e1]at et ⊢;have oX:es.length=ck.length:=by
     obtain⟨_,_,h⟩:=et.len;grind
    refine bQ.TC et aw j7 we (fun x ak=>?_) (fun o aZ wb=>?_) (fun c p q al aK=>?_)
    ·grind
    ·right;grind
    grind[Tag.R]
   ·exact aU.below.setRow um b9
   ·intro c ig;have:ω c≠.bt:=fun e=>by grind[iu]
    obtain⟨ax,jx,jJ,aJ⟩:=aU.owned c this;grind[setRow_other]
   ·grind[id,iu,setRow_other]
   ·intro id c ig;exact HX.1 ig
   have eW:∀x j d,cQ (es++bL) x j=some d->∃u,b9[off+x*i.size+j]?=some u/\bQ (w.setRow b b9) a7 (fun q=>(Tag.own t).R ((x,j)::q)) d u:=by
    intro x j d dK;rw[y8]at dK;split at dK
    ·rename_i ak;have yj:=(rK gu dK).2;refine⟨us x j,?_,(aG x j d dK).frame fun c q al aK=>?_⟩
     ·have:(x+1)*i.size<=es.length*i.size:=gW _ ak;rw[gB]at this;rw[hW,bG (by omega),hu x j d dK]
     exact l1 c _ _ al aK
    rename_i ak;obtain⟨u,h1,U⟩:=hY.Mv (aM:=w.setRow b b9) (a7:=a7) (n:=es.length) jz c7 dK;have XL:=(fy.1 h1).1;have wg:x*i.size=es.length*i.size+(x-es.length)*i.size:=by rw[<-gB];grind
    refine⟨u,?_,?_⟩
    ·rw[hW,bM (by omega),<-h1]
     congr 1
     omega
    rwa[show es.length+(x-es.length)=x by omega]at U
   have hlen:(es++bL).length=es.length+bL.length:=kH;have o7:∀e∈es++bL,e.length=i.size:=by
    intro e' he;rcases mo.1 he with h | h
    ·grind
    exact hY.rows e' h
   have:=bQ.row (w:=w.setRow b b9) (ω:=a7) (Tag.own t).R i.size (es++bL) b off cap b9 hN (0,0) (fun x j=>b9.getD (off+x*i.size+j) undef) j7 mQ (by omega) (by omega) o7
    (fun x j d aG=>by obtain⟨u,h1,_⟩:=eW x j d aG;rw[h1];simp[er,h1])
    (fun x j d aG=>by obtain⟨u,h1,U⟩:=eW x j d aG;have:b9.getD (off+x*i.size+j) undef=u:=(by simp[er,h1]);grind)
   grind
  -- it atv
  have hmul:es.length*i.size<=cap*i.size:=gW _ al;have p6:((arr.toList.drop off).take (es.length*i.size)).length=es.length*i.size:=by simp;omega
  have e5:=run_append_grow (P:=P) w hb ty e i z bU hi bl ⟨b,off,none⟩ es.length cap ((arr.toList.drop off).take (es.length*i.size)) p6 (fun j v bz=>by
   grind[pr,cell_of_row]) ⟨a',k6,none⟩ bL.length jo news hY.len oZ (by omega) (by omega) (growslice_fits (by omega) gG)
  have nV:=grownCap_ge w (es.length+bL.length) cap e;obtain⟨a7,h1,U⟩:=grown _ (((arr.toList.drop off).take (es.length*i.size)).toArray++news.toArray++Builtin.zeroCells z.cells (grownCap w (es.length+bL.length) cap e-(es.length+bL.length))) _ (grownCap w (es.length+bL.length) cap e)
   (((fP.refl _ _).drew).alloc (ga _) _) (l8 _ _) rfl nV (by
    simp only[sb,nB,size_zeroCells,hY.len,n1,p6,<-gB];grind)
   (fun fm j d eb=>by
    obtain⟨vZ,dV⟩:=rK gu eb;have:(fm+1)*i.size<=es.length*i.size:=gW _ vZ;rw[gB]at this;refine⟨us fm j,?_,fun q=>(Tag.own t).R ((fm,j)::q),fun q o h=>h,aG fm j d eb⟩;grind)
   (fun x u ak=>by
    have fA:=(fy.1 ak).1;rw[iD,bM (by grind),iD,bG (by grind)];grind) gu
  grind
end Go.Sx
namespace Go.Sx
open Go.RowKit
def Flat(es:List (List D)):Prop:=∀e∈es,∀d∈e,∃x,d=.v x
theorem ajD{es:List (List D)}{i j:Nat}{d:D}(h:cQ es i j=some d):∃e∈es,d∈e:=by
 unfold cQ at h;cases ak:es[i]? with
 | none=>grind
 | some e=>rw[ak,ox]at h;exact⟨e,fl ak,fl h⟩
variable{P:Program}{w:World}{ω:Own}{k:Nat}{dD:Option Nat}
theorem Src.empty(a:Option Addr):Src P w ω k [] dD (.slice a 0 0) [] where
 len:=by simp
 rows:=fun _ h=>(by cases h)
 one:=fun _ h=>(by cases h)
 cell:=fun i j d aG=>by grind[cQ]
 shape:=.inl ⟨⟨a,rfl⟩,rfl⟩
theorem Src.of{R:List (Nat×Nat)->c0->Prop}{bL:List (List D)}{y:Value}(h:bQ w ω R (.J k bL) y)(l0:0<k)
  (al:Flat bL\/∃s,dD=some s/\R=(Tag.own s).R):∃news,Src P w ω k bL dD y news:=by
 cases h with
 | nil=>exact⟨[],Src.empty _⟩
 | row R k es b off cap arr ty cL us aw dG fS ai gu hu aG=>
  have hmul:bL.length*k<=cap*k:=gW _ fS;have hW:∀x:Nat,((arr.toList.drop off).take (bL.length*k))[x]?=if x<bL.length*k then arr[off+x]? else none:=by
   grind
  have eW:∀i j d,cQ bL i j=some d->((arr.toList.drop off).take (bL.length*k))[i*k+j]?=some (us i j):=by
   intro i j d eb;obtain⟨hi,bg⟩:=rK gu eb;have:(i+1)*k<=bL.length*k:=gW _ hi;grind
  refine⟨(arr.toList.drop off).take (bL.length*k),by simp;omega,gu,?_,?_,.inr ⟨b,off,cap,rfl,?_⟩⟩
  ·intro u iL;obtain⟨x,ak⟩:=ow.1 iL;have bJ:x<bL.length*k:=by
    grind
   have wg:x=(x / k)*k+x % k:=by grind[Nat.mul_comm,Nat.div_add_mod]
   have aK:x / k<bL.length:=Nat.div_lt_of_lt_mul (by grind);obtain⟨d,eb⟩:=OX gu aK (Nat.mod_lt x l0);have h1:=eW _ _ _ eb;rw[<-wg,ak]at h1;rw[gP h1];exact (aG _ _ _ eb).oa
  ·intro i j d eb;refine⟨us i j,eW i j d eb,?_⟩;rcases al with b0 | ⟨s,mP,uu⟩
   ·obtain⟨e,he,Ws⟩:=ajD eb;obtain⟨x,rfl⟩:=b0 e he d Ws;have:=aG i j _ eb;cases ax:us i j<;>(rw[ax]at this;cases this;grind)
   simp_all
  grind[pr,cell_of_row]
variable{τ:Nat->Nat×Value}
theorem cr.Hf{w0:ee}{st:aD}{a:Act}(h:cr w0 st a w ω τ)(t k:Nat)(hZ:t<cX):
  ∃a7,cr w0 (st.il t []) a w a7 (fE τ t k (.slice none 0 0))/\Sat w a7 (fE τ t k (.slice none 0 0)) (.J (.own t) k []) (.slice none 0 0):=by
 refine⟨fun b=>oc t [] (ω b),h.dT _ (kK.sat (g:=ho t []) (p:=fun _=>true) ⟨?_,?_,?_,rfl,fun s ai=>by simp only[fE];grind⟩) h.below ?_ ?_ ?_ (fun s ai=>by simp only[fE];grind),.nil _ _ _,by simp[Tag.dJ,fE]⟩
 ·grind[OS]
 ·intro g dW y av bD;cases g with
  | free=>simp only[ho,aS]at av;subst av;exact trivial
  | own s=>
   simp only[ho]at av;split at av
   ·simp only[aS]at av;subst av;exact trivial
   split at av
   ·cases av
   simp only[aS]at av;subst av;simp_all[Tag.dJ,fE,bG]
  | ro s=>
   simp only[ho]at av;split at av
   ·simp only[aS]at av;subst av;exact trivial
   split at av
   ·cases av
   simp only[aS]at av;subst av;exact trivial
 ·intro id b _ aw;exact Cf.2 aw
 ·intro b aw;exact h.owned b fun e=>by simp only[e]at aw;exact aw rfl
 ·intro id b aw;exact⟨Cf.2 aw,rfl⟩
 intro id b aw;exact Cf.1 aw
def tT(t k:Nat)(q:aE)(ans:List b4):Option (List (List D)×Option Nat×List b4×List Prop):=
 match q.leaf,ans with
 | some (.J (.own s) ch bL),.wr::r=>if ch=k/\s≠t then some (bL,some s,r,[]) else none
 | some (.J _ ch bL),ans=>if ch=k then some (bL,none,ans,[Flat bL]) else none
 | some (.v (.slice none 0 0)),ans=>some ([],none,ans,[])
 | some (.aO _ _ _ ch bL .here),ans=>if ch=k then some (bL,none,ans,[Flat bL]) else none
 | some (.aO _ _ _ ch bL .kL),ans=>if ch=k then some (bL,none,ans,[Flat bL]) else none
 | _,_=>none
theorem OZ{P:Program}{t:Nat}{q:aE}{y:Value}{ans b':List b4}{bL:List (List D)}{obs:List Prop}(l0:0<k)
  (aK:cE (Sat w ω τ) q y) (h:tT t k q ans=some (bL,dD,b',obs)) (aZ:cA obs):dD≠some t/\∃news,Src P w ω k bL dD y news:=by
 unfold tT at h;split at h
 ·rename_i s ch es r e;split at h
  ·rename_i al;obtain⟨rfl,c3⟩:=al;simp only[aS,bq]at h;obtain⟨rfl,rfl,_,_⟩:=h;exact⟨by grind,Src.of (aE.du e aK).1 l0 (.inr ⟨s,rfl,rfl⟩)⟩
  cases h
 ·rename_i g ch es e _;split at h
  ·rename_i al;subst al;simp only[aS,bq]at h;obtain⟨rfl,rfl,_,rfl⟩:=h;exact⟨by simp,Src.of (aE.du e aK).1 l0 (.inl aZ.1)⟩
  cases h
 ·rename_i e;simp only[aS,bq]at h;obtain⟨rfl,rfl,_,_⟩:=h;have:y=.slice none 0 0:=aE.du e aK;subst this;exact⟨by simp,[],Src.empty _⟩
 ·rename_i s Ad Ae ch es e;split at h
  ·rename_i al;subst al;simp only[aS,bq]at h;obtain⟨rfl,rfl,_,rfl⟩:=h;obtain⟨hx,rfl,aH,_⟩:=aE.du e aK;exact⟨by simp,Src.of aH l0 (.inl aZ.1)⟩
  cases h
 ·rename_i s Ad Ae ch es e;split at h
  ·rename_i al;subst al;simp only[aS,bq]at h;obtain⟨rfl,rfl,_,rfl⟩:=h;obtain⟨hx,rfl,aH,_⟩:=aE.du e aK;exact⟨by simp,Src.of aH l0 (.inl aZ.1)⟩
  cases h
 cases h
def Bd(d:Nat)(st:aD)(k:Nat)(p:aE):Option (aD×Nat×List (List D)):=
 match p.leaf with
 | some (.J (.own t) ch es)=>if ch=k then some (st,t,es) else none
 | some (.v (.slice none 0 0))=>some (st.il d [],d,[])
 | _=>none
def xi(P:Program)(st:aD)(d:Nat)(t:TypeId)(x y:Operand)(ans:List b4):Stepped:=
 match ps P t with
 | some (e,k)=>
  match P.info? e,Bd d st k (st.bh x) with
  | some i,some (st1,gm,es)=>
   match i.zero,tT gm k (st1.bh y) ans with
   | some z,some (bL,dD,b',obs)=>
    if z.cells.size=k/\0<k/\gm<cX then
     some (⟨(st1.vC gm dD).env.set d (.one (.J (.own gm) k (es++bL))),(st1.vC gm dD).boxes⟩,b',((es.length+bL.length)*i.bytes<=140737488355328)::(es.length+bL.length<=9223372036854775807)::obs)
    else none
   | _,_=>none
  | _,_=>none
 | none=>none
theorem cr.xi{w0:ee}{st bn:aD}{a:Act}{d:Nat}{t ty:TypeId}{x y:Operand}{ans b':List b4}{obs:List Prop}
  (aU:cr w0 st a w ω τ) (h:Sx.xi P st d t x y ans=some (bn,b',obs)) (aZ:cA obs):
  ∃z aM,(Builtin.append_ #[t,t] ty #[a.eval x,a.eval y]).run P w=.ok z aM/\Rel w0 bn (a.put (some d) z) aM:=by
 unfold Sx.xi at h;split at h
 ·rename_i e k he;obtain⟨hu,i0,j8,wc⟩:=u3 he;split at h
  ·rename_i i st1 gm es hi jg;rw[j8]at hi;have nY:=gP hi;subst nY;split at h
   ·rename_i z bL dD tS wm bl hY;split at h
    ·rename_i al;simp only[aS,bq]at h;obtain⟨rfl,rfl,rfl⟩:=h;obtain⟨cy,ca,cC⟩:=aZ;have:∃ER Mf,cr w0 st1 a w ER Mf/\Sat w ER Mf (.J (.own gm) k es) (a.eval x):=by
      unfold Bd at jg;split at jg
      ·rename_i c5 ch ck ap;split at jg
       ·rename_i gu;subst gu;simp only[aS,bq]at jg;obtain⟨rfl,rfl,rfl⟩:=jg;exact⟨ω,τ,aU,aE.du ap (aU.bh x)⟩
       cases jg
      ·rename_i ap;simp only[aS,bq]at jg;obtain⟨rfl,rfl,rfl⟩:=jg;have:a.eval x=.slice none 0 0:=aE.du ap (aU.bh x);rw[this];obtain⟨ER,h1,U⟩:=aU.Hf d k al.2.2;grind
      cases jg
     obtain⟨ER,Mf,gI,ak⟩:=this;obtain⟨jz,news,ai⟩:=OZ (P:=P) al.2.1 (gI.bh y) hY cC;obtain⟨r,aM,a7,h1,U,ax⟩:=gI.append (P:=P) (ty:=ty) ak ai jz hu j8 bl wc al.1 cy ca al.2.2;exact⟨r,aM,h1,a7,_,U.put (p:=.one (.J (.own gm) k (es++bL))) ax⟩
    cases h
   cases h
  cases h
 cases h
