import Derived.Test.YtdchjefneblpgaaR26
import Derived.Test.YtdchjefneblpgaaR31
import Derived.Orders
set_option linter.unusedVariables false
set_option linter.unusedSimpArgs false
namespace Go.Sx
open Go.RowKit
def EC(P:Program)(st:aG)(d:Option Nat)(f:FuncId)(args:List Operand)(ans:List bI):Stepped:=
 match P.funcs[f]?,args.mapM (fun x=>(st.aW x).hU st.boxes),ans with
 | some fn,some e1,.res rs::r=>
  if (fn.name == "runtime.NumGoroutine") = false /\ fn.body.isNone = false /\ qR rs = true /\ 10000 * (d.getD 0 + 1) + 10000 <= cy then
   let t:=10000*(d.getD 0+1)
   match d with
   | some d=>some (⟨(st.rE t).env.set d (pY t rs),(st.rE t).boxes⟩,r,[gm P f e1 rs])
   | none=>some (st.rE t,r,[gm P f e1 rs])
  else none
 | _,_,_=>none
def Jm(P:Program)(st:aG)(d:Option Nat)(f:Operand)(args:List Operand)(ans:List bI):Stepped:=
 match (st.aW f).leaf.bind (aq.hU st.boxes),args.mapM (fun x=>(st.aW x).hU st.boxes),ans with
 | some (.da g cD),some e1,.res rs::r=>
  if qR rs=true/\10000*(d.getD 0+1)+10000<=cy then
   let t:=10000*(d.getD 0+1)
   match d with
   | some d=>some (⟨(st.rE t).env.set d (pY t rs),(st.rE t).boxes⟩,r,[hM P g=true,gm P g (e1++cD.map .one) rs])
   | none=>some (st.rE t,r,[hM P g=true,gm P g (e1++cD.map .one) rs])
  else none
 | _,_,_=>none
def Ij:List bI->Bool
 | .oO _ _ _ _::_=>true
 | _=>false
def Il:List bI->Bool
 | .eI _ _::_=>true
 | _=>false
def Ik:List bI->Bool
 | .own::_=>true
 | _=>false
def ml(P:Program)(st:aG)(o:Oper)(ans:List bI):Stepped:=
 match o.dst,o.op with
 | some d,.box _ x=>Dq st d (st.aW x) ans
 | some d,.alloc ty=>Dr P st d ty ans
 | some d,.makeSlice t l c=>zk P st d t (st.aW l) (st.aW c) ans
 | some d,.buildSlice t n parts=>wT P st d t n parts.toList ans
 | none,.store ty x y=>
  match (st.aW x).leaf with
  | some (.ptr id off)=>Ds P st ty id off (st.aW y) ans
  | some (.ep (.own t) k es i j)=>DB P st ty t k es i j (st.aW y) ans
  | some (.bE t i j k es (.at_ a b))=>Dc P st ty t i j k es a b (st.aW y) ans
  | _=>none
 | d,.call ⟨.value (.func f),args,_⟩=>if Il ans then Ez P st d f args.toList ans else if Ij ans then C8 P st d f args.toList ans else EC P st d f args.toList ans
 | d,.call ⟨.value (.tmp x),args,_⟩=>if Il ans then EA P st d (.tmp x) args.toList ans else Jm P st d (.tmp x) args.toList ans
 | some d,.call ⟨.builtin .append,⟨[x,y]⟩,⟨[t,c3]⟩⟩=>
  if t=c3 then
   match (st.aW x).leaf with
   | some (.bE s i j k es .here)=>Dd P st d t s i j k es y ans
   | _=>uF P st d t x y ans
  else none
 | some d,.slice t x cp hi gV=>if Ik ans then uG P st d t (st.aW x) cp hi gV ans.tail else (nE P st (.slice t x cp hi gV) ans).map fun r=>(⟨st.env.set d r.1,st.boxes⟩,r.2.1,r.2.2)
 | some d,op=>(nE P st op ans).map fun r=>(⟨st.env.set d r.1,st.boxes⟩,r.2.1,r.2.2)
 | none,op=>(nE P st op ans).map fun r=>(st,r.2.1,r.2.2)
variable{P:Program}{o:Oper}{a:Act}{w:World}{Q:Exit->Act->World->Prop}
theorem Calls.of{next:Act->World->Prop}{z:Value}{aD:World}(h:(execOp a.eval o).run P w=.ok (.value z) aD)(aR:next (a.put o.dst z) aD):
  o.wp P a w next Q:=by
 unfold Oper.wp;rw[h];exact aR
variable{w0:dC}{st a6:aG}{ans bN:List bI}{obs:List Prop}
theorem ED(h:ml P st o ans=some (a6,bN,obs))(aM:cn obs)(aI:Rel w0 st a w)
  {next:Act->World->Prop} {Q:Exit->Act->World->Prop} (h2:∀b4 aD,Rel w0 a6 b4 aD->next b4 aD):o.wp P a w next Q:=by
 obtain⟨ω,τ,aI⟩:=aI;obtain⟨dst,op,type,pos,after,guard⟩:=o;simp only[ml]at h;split at h
 ·rename_i d ty x;obtain⟨z,aD,J,U⟩:=b1.box (P:=P) aI (aI.aW x) h ty;exact Calls.of (g' J) (h2 _ _ U)
 ·rename_i d ty;obtain⟨z,aD,J,U⟩:=b1.alloc aI h;exact Calls.of (g' J) (h2 _ _ U)
 ·rename_i d t l c;obtain⟨z,aD,J,U⟩:=aI.make (aI.aW l) (aI.aW c) h aM;exact Calls.of (g' J) (h2 _ _ U)
 ·rename_i d t n parts;obtain⟨z,aD,J,U⟩:=aI.buildSlice h;exact Calls.of (g' J) (h2 _ _ U)
 ·rename_i ty x y;have fin:∀aD,(Instr.storeAt ty (a.eval x) (a.eval y)).run P w=.ok () aD->Rel w0 a6 a aD->Oper.wp P ⟨none,.store ty x y,type,pos,after,guard⟩ a w next Q:=by
   intro aD J U;unfold Oper.wp execOp;simp only[Sem.run_bind,J,Result.andThen_ok,Sem.run_pure,Oper.upon];exact h2 _ _ U
  split at h
  ·rename_i id off e;obtain⟨b,ah,ae⟩:=az.cW e (aI.aW x);obtain⟨aD,J,U⟩:=aI.adU (P:=P) ah (aI.aW y) h;exact fin aD (by rw[ae];exact J) U
  ·rename_i t k es i j e;obtain⟨aD,J,U⟩:=aI.adW (P:=P) (az.cW e (aI.aW x)) (aI.aW y) h aM;exact fin aD J U
  ·rename_i t i j k es aea GJ e;obtain⟨aD,J,U⟩:=aI.adY (P:=P) (az.cW e (aI.aW x)) (aI.aW y) h aM;exact fin aD J U
  cases h
 ·rename_i f args ts;split at h
  ·exact SK aI h aM h2
  split at h
  ·exact Ry aI h aM h2
  rename_i BM P7;clear BM;unfold EC at h;clear P7;split at h
  ·rename_i fn e1 rs r jk Bq;split at h
   ·rename_i ai;obtain⟨iA,hZ,iQ,po⟩:=ai;obtain⟨ak,ag⟩:=kS Bq;have j1:zo w e1 (args.map a.eval):=by
     refine⟨by simp[ak],fun i bT hi=>?_⟩;obtain⟨x,ae,iE⟩:=ag i bT hi;refine⟨a.eval x,?_,az.s6 aI.boxes iE (aI.aW x)⟩;rw[GN];rw[jy]at ae;rw[ae];rfl
    have ei:(execOp a.eval ⟨dst,.call ⟨.value (.func f),args,ts⟩,type,pos,after,guard⟩).run P w=.ok (.enter f (args.map a.eval)) w:=by
     have Px : fn.name ≠ "runtime.NumGoroutine" := by simpa using iA
     have pj:fn.body≠none:=by intro e;rw[e]at hZ;cases hZ
     simp[execOp,resolve,Act.eval,Deferred.ofValue,invoke,callFunc,jk,Px,pj]
    have key:∀(j5:List Prop),obs=j5->cn j5->j5=[gm P f e1 rs]->∀(K:Act->World->Prop),(∀v aD,e9 w.heap.size w aD->s4 w aD rs v->K (a.put dst v) aD)->
      Oper.wp P ⟨dst,.call ⟨.value (.func f),args,ts⟩,type,pos,after,guard⟩ a w K Q:=by
     intro j5 _ jM e K fw;subst e;unfold Oper.wp;rw[ei];simp only[Oper.upon];refine (jM.1 w _ aI.below.laid j1).mono ?_;rintro e aD ⟨v,rfl,ah,ar⟩;exact fw v aD ah ar
    simp only at h;cases dst with
    | none=>
     simp only[aH,a']at h;obtain⟨rfl,_,rfl⟩:=h;refine key _ rfl aM rfl next fun v aD ah ar=>h2 _ _ ?_
     obtain⟨aP,ch,J,_⟩:=aI.called (10000*(Option.getD none 0+1)) iQ po ah ar;exact⟨aP,ch,J⟩
    | some d=>
     simp only[aH,a']at h;obtain⟨rfl,_,rfl⟩:=h;refine key _ rfl aM rfl next fun v aD ah ar=>h2 _ _ ?_
     obtain⟨aP,ch,J,U⟩:=aI.called (10000*(Option.getD (some d) 0+1)) iQ po ah ar;exact⟨aP,ch,J.put U⟩
   cases h
  cases h
 ·rename_i x args ts;split at h
  ·exact SL aI h aM h2
  rename_i BM;clear BM;unfold Jm at h;split at h
  ·rename_i g cD e1 rs r bn Bq;split at h
   ·rename_i ai;obtain⟨iQ,po⟩:=ai;obtain⟨ak,ag⟩:=kS Bq;have cr:e1.length=args.size:=by rw[ak,AA]
    rw[jT]at bn;obtain⟨iG,BR,Qg⟩:=bn;have HC:jn w (.da g cD) (a.eval (.tmp x)):=aq.s6 aI.boxes Qg (az.cW BR (aI.aW (.tmp x)));have PV:∃cs:Array Value,a.eval (.tmp x)=.func (.func g) #[] cs/\cs.size=cD.length/\∀(j:Nat) (d:D),cD[j]?=some d->∃u,cs[j]?=some u/\jn w d u:=by
     generalize a.eval (.tmp x)=y at HC;cases HC with
     | da R g cD cs us ad hu ay=>exact⟨cs,rfl,ad,fun j d aU=>⟨us j,hu j d aU,(ay j d aU).free⟩⟩
    obtain⟨cs,iB,PD,PK⟩:=PV;have j1:zo w (e1++cD.map .one) (args.map a.eval++cs):=by
     refine⟨by simp[ak,PD],fun i bT hi=>?_⟩;rw[kf]at hi;rw[hz];split at hi
     ·rename_i kE;rw[bb (by simp;omega)];obtain⟨y,a7,jl⟩:=ag i bT hi;refine⟨a.eval y,?_,az.s6 aI.boxes jl (aI.aW y)⟩;rw[GN];rw[jy]at a7;rw[a7];rfl
     rename_i kE;rw[aZ (by simp;omega)];rw[dG,bF]at hi;obtain⟨d,ay,rfl⟩:=hi;obtain⟨u,fe,er⟩:=PK _ d ay;refine⟨u,?_,er⟩;rw[<-fe]
     congr 1
     simp;omega
    have ei:hM P g=true->(execOp a.eval ⟨dst,.call ⟨.value (.tmp x),args,ts⟩,type,pos,after,guard⟩).run P w=.ok (.enter g (args.map a.eval++cs)) w:=by
     intro pk;unfold hM at pk;split at pk
     ·rename_i fn jk;simp only[b0,gD,sZ,ki]at pk;have pj:fn.body≠none:=by intro e;rw[e]at pk;simp at pk
      simp[execOp,resolve,iB,Deferred.ofValue,invoke,callFunc,jk,pk.1,pj]
     cases pk
    have key:∀(j5:List Prop),obs=j5->cn j5->j5=[hM P g=true,gm P g (e1++cD.map .one) rs]->∀(K:Act->World->Prop),(∀v aD,e9 w.heap.size w aD->s4 w aD rs v->K (a.put dst v) aD)->
      Oper.wp P ⟨dst,.call ⟨.value (.tmp x),args,ts⟩,type,pos,after,guard⟩ a w K Q:=by
     intro j5 _ jM e K fw;subst e;unfold Oper.wp;rw[ei jM.1];simp only[Oper.upon];refine (jM.2.1 w _ aI.below.laid j1).mono ?_;rintro e aD ⟨v,rfl,ah,ar⟩;exact fw v aD ah ar
    simp only at h;cases dst with
    | none=>
     simp only[aH,a']at h;obtain⟨rfl,_,rfl⟩:=h;refine key _ rfl aM rfl next fun v aD ah ar=>h2 _ _ ?_
     obtain⟨aP,ch,J,_⟩:=aI.called (10000*(Option.getD none 0+1)) iQ po ah ar;exact⟨aP,ch,J⟩
    | some d=>
     simp only[aH,a']at h;obtain⟨rfl,_,rfl⟩:=h;refine key _ rfl aM rfl next fun v aD ah ar=>h2 _ _ ?_
     obtain⟨aP,ch,J,U⟩:=aI.called (10000*(Option.getD (some d) 0+1)) iQ po ah ar;exact⟨aP,ch,J.put U⟩
   cases h
  cases h
 ·rename_i d x y t c3;split at h
  ·rename_i vM;subst vM;have tk:∃z aD,(Builtin.append_ #[t,t] type #[a.eval x,a.eval y]).run P w=.ok z aD/\Rel w0 a6 (a.put (some d) z) aD:=by
    split at h
    ·rename_i s i j k es e;exact aI.OI (P:=P) (ty:=type) (az.cW e (aI.aW x)) h aM
    exact aI.uF (ty:=type) h aM
   obtain⟨z,aD,J,U⟩:=tk;refine Calls.of (z:=z) (aD:=aD) ?_ (h2 _ _ U);have:(execOp a.eval ⟨some d,.call ⟨.builtin .append,⟨[x,y]⟩,⟨[t,t]⟩⟩,type,pos,after,guard⟩)=(builtin .append ⟨[t,t]⟩ type (Array.map (fun | .const _=>true | _=>false) ⟨[x,y]⟩) (Array.map a.eval ⟨[x,y]⟩)):=by
    simp only[execOp,resolve];rfl
   rw[this];exact g' (by simpa using J)
  cases h
 ·rename_i d t x cp hi gV;split at h
  ·obtain⟨z,J,U⟩:=aI.uG (P:=P) (aI.aW x) h aM;exact Calls.of (g' J) (h2 _ _ U)
  rw[bF]at h;obtain⟨⟨bO,b6,cC⟩,J,h⟩:=h;simp only[a']at h;obtain⟨rfl,rfl,rfl⟩:=h;obtain⟨z,U,ax⟩:=Dp (o:=⟨_,_,type,pos,after,guard⟩) aI J aM;exact Calls.of U (h2 _ _ ⟨ω,τ,aI.put ax⟩)
 ·rw[bF]at h;obtain⟨⟨bO,b6,cC⟩,J,h⟩:=h;simp only[a']at h;obtain⟨rfl,rfl,rfl⟩:=h;obtain⟨z,U,ax⟩:=Dp (o:=⟨_,_,type,pos,after,guard⟩) aI J aM;exact Calls.of U (h2 _ _ ⟨ω,τ,aI.put ax⟩)
 rw[bF]at h;obtain⟨⟨bO,b6,cC⟩,J,h⟩:=h;simp only[a']at h;obtain⟨rfl,rfl,rfl⟩:=h;obtain⟨z,U,ax⟩:=Dp (o:=⟨_,_,type,pos,after,guard⟩) aI J aM;exact Calls.of U (h2 _ _ ⟨ω,τ,aI⟩)
def ly(P:Program)(st:aG)(o:Oper)(ans:List bI):Stepped:=
 match o.dst,o.op with
 | some d,.alloc ty=>zt P st d ty ans
 | none,.store ty (.tmp s) y=>zv P st ty s (st.aW y) ans
 | _,_=>ml P st o ans
theorem SM(h:ly P st o ans=some (a6,bN,obs))(aM:cn obs)(aI:Rel w0 st a w)
  {next:Act->World->Prop} {Q:Exit->Act->World->Prop} (h2:∀b4 aD,Rel w0 a6 b4 aD->next b4 aD):o.wp P a w next Q:=by
 obtain⟨dst,op,type,pos,after,guard⟩:=o;unfold ly at h;split at h
 ·rename_i d ty aK aO;simp only at aK aO;subst aK;subst aO;obtain⟨ω,τ,aI⟩:=aI;obtain⟨z,aD,J,U⟩:=b1.OH aI h;exact Calls.of (g' J) (h2 _ _ U)
 ·rename_i ty s y aK aO;simp only at aK aO;subst aK;subst aO;obtain⟨ω,τ,aI⟩:=aI;obtain⟨aD,J,U⟩:=aI.adX (P:=P) (aI.aW y) h;unfold Oper.wp execOp;simp only[Sem.run_bind,J,Result.andThen_ok,Sem.run_pure,Oper.upon];exact h2 _ _ U
 exact ED h aM aI h2
def wy(st:aG)(dst:Option Nat):aG:=
 match dst with
 | some d=>⟨st.env.set d (.one (.v undef)),st.boxes⟩
 | none=>st
theorem EE{dst:Option Nat}(h:Rel w0 st a w):Rel w0 (wy st dst) (a.put dst undef) w:=by
 obtain⟨ω,τ,h⟩:=h;cases dst with
 | none=>exact⟨ω,τ,h⟩
 | some d=>exact⟨ω,τ,h.put (p:=.one (.v undef)) rfl⟩
def oA(ops:Array Oper)(st:aG)(o:Oper)(ans:List bI):Option (Bool×aG×List bI×List Prop):=
 match o.guard with
 | none=>some (true,st,ans,[])
 | some (j,want)=>
  match (ops[j]?).bind (·.dst) with
  | some s=>
   match (st.env.getD s .b5).leaf with
   | some (.v (.bool b))=>some (b==want,st,ans,[])
   | some (.v (.tuple _))=>some (false,st,ans,[])
   | some (.bP c)=>
    match ans with
    | .lP b::r=>some (b==want,⟨st.env.set s (.one (.v (.bool b))),st.boxes⟩,r,[c=b])
    | _=>none
   | _=>none
  | none=>none
variable{ops:Array Oper}
theorem sD{b:Bool}(h:oA ops st o ans=some (b,a6,bN,obs))(aM:cn obs)(aI:Rel w0 st a w):
  Region.wanted o (yielded ops a.tmps)=b/\Rel w0 a6 a w:=by
 obtain⟨ω,τ,aI⟩:=aI;unfold oA at h;split at h
 ·rename_i ag;simp only[aH,a']at h;obtain⟨rfl,rfl,_,_⟩:=h;exact⟨by simp[Region.wanted,ag],ω,τ,aI⟩
 rename_i j want ag;split at h
 ·rename_i s ad;have dJ:∀l,(st.env.getD s .b5).leaf=some l->∀x,(∀y,Sat w ω τ l y->y=x)->(l=.b5->False)->a.tmps[s]?=some x:=by
   intro l ak x ae cl;rw[jz]at ak;cases e:st.env[s]? with
   | none=>
    rw[e]at ak;simp only[Option.getD_none,az.leaf,aH]at ak;exact absurd ak.symm cl
   | some p=>
    rw[e]at ak;obtain⟨v,J,U⟩:=aI.env s p e;rw[J,ae v (az.cW ak U)]
  split at h
  ·rename_i cH ak;simp only[aH,a']at h;obtain⟨rfl,rfl,_,_⟩:=h;have:=dJ _ ak (.bool cH) (fun y a7=>a7) (fun h=>by cases h);exact⟨by simp[Region.wanted,ag,yielded,ad,this],ω,τ,aI⟩
  ·rename_i vs ak;simp only[aH,a']at h;obtain⟨rfl,rfl,_,_⟩:=h;have:=dJ _ ak (.tuple vs) (fun y a7=>a7) (fun h=>by cases h);exact⟨by simp[Region.wanted,ag,yielded,ad,this],ω,τ,aI⟩
  ·rename_i c ak;split at h
   ·rename_i cH r;simp only[aH,a']at h;obtain⟨rfl,rfl,_,rfl⟩:=h;have gJ:c=cH:=aM.1;subst gJ;have:=dJ _ ak (.bool c) (fun y a7=>a7) (fun h=>by cases h);refine⟨by simp[Region.wanted,ag,yielded,ad,this],ω,τ,?_⟩;have B2:=aI.put (d:=s) (p:=.one (.v (.bool c))) (v:=.bool c) rfl;have e:a.put (some s) (.bool c)=a:=by
     simp only[Act.put];have:a.tmps.setIfInBounds s (.bool c)=a.tmps:=by
      apply Array.ext
      ·simp
      intro i J U;rw[Array.getElem_setIfInBounds];split
      ·rename_i hi;subst hi;rw[i' U]at this;exact (e0 this).symm
      rfl
     rw[this]
    rwa[e]at B2
   cases h
  cases h
 cases h
def nB(P:Program)(ops:Array Oper)(o:Oper)(st:aG)(ans:List bI):Stepped:=
 match oA ops st o ans with
 | some (true,c0,ea,eG)=>(ml P c0 o ea).map fun r=>(r.1,r.2.1,eG++r.2.2)
 | some (false,c0,ea,eG)=>some (wy c0 o.dst,ea,eG)
 | none=>none
theorem Jn{rest:List Oper}(h:nB P ops o st ans=some (a6,bN,obs))(aM:cn obs)
  {a:Act} {w:World} (aI:Rel w0 st a w) (fw:∀b4 aD,Rel w0 a6 b4 aD->wpList P ops Q rest b4 aD):wpList P ops Q (o::rest) a w:=by
 unfold nB at h;split at h
 ·rename_i c0 ea eG hw;rw[bF]at h;obtain⟨⟨bO,b6,cC⟩,J,h⟩:=h;simp only[a']at h;obtain⟨rfl,rfl,rfl⟩:=h;obtain⟨cu,cc⟩:=aM.append;obtain⟨nr,fr⟩:=sD hw cu aI;refine wpList_step fun K rK=>?_
  rw[bb nr];exact ED J cc fr fun b4 aD dA=>rK _ _ (fw _ _ dA)
 ·rename_i c0 ea eG hw;simp only[aH,a']at h;obtain⟨rfl,rfl,rfl⟩:=h;obtain⟨nr,fr⟩:=sD hw aM aI;refine wpList_step fun K rK=>?_
  rw[aZ (by rw[nr];simp)];exact rK _ _ (fw _ _ (EE fr))
 cases h
def EF(o cc:Oper):Option (Nat×TypeId×Operand×Option Operand×TypeId):=
 match o.dst,o.op,o.guard,cc.dst,cc.op,cc.guard with
 | some d,.slice t x cp none none,none,none,.call ⟨.builtin .clear,⟨[.tmp cN]⟩,⟨[mw]⟩⟩,none=>if d=cN then some (d,t,x,cp,mw) else none
 | _,_,_,_,_,_=>none
theorem SN{cc:Oper}{rest:List Oper}{d:Nat}{t mw:TypeId}{x:Operand}{cp:Option Operand}(hp:EF o cc=some (d,t,x,cp,mw))
  {st a6:aG} {ans bN:List bI} {obs:List Prop} (h:zx P st d t x cp mw ans=some (a6,bN,obs)) (aM:cn obs)
  {a:Act} {w:World} (aI:Rel w0 st a w) (fw:∀b4 aD,Rel w0 a6 b4 aD->wpList P ops Q rest b4 aD):wpList P ops Q (o::cc::rest) a w:=by
 obtain⟨dst,op,type,pos,after,guard⟩:=o;obtain⟨aeS,afU,type2,afY,aeF,ae2⟩:=cc;unfold EF at hp;split at hp
 ·rename_i d0 t0 ri afN cN af5 aK aO b2 eY ks qj;simp only at aK aO b2 eY ks qj;subst aK aO b2 eY ks qj;split at hp
  ·rename_i ay;subst ay;simp only[aH,a']at hp;obtain⟨rfl,rfl,rfl,rfl,rfl⟩:=hp;obtain⟨ω,τ,aI⟩:=aI;obtain⟨bk,y,z,aD,J,U,ax⟩:=aI.clear h aM;refine wpList_plain rfl fun K rK=>Calls.of (g' (by simpa using J)) (rK _ _ ?_)
   refine wpList_plain rfl fun K rK=>?_
   have oa:(a.put (some d0) y).eval (.tmp d0)=y:=by
    simp only[Act.eval,Act.put,dF,Array.getElem?_setIfInBounds];simp[bk]
   refine Calls.of (z:=z) (aD:=aD) ?_ (rK _ _ (fw _ _ ax));simp only[execOp,resolve,invoke,builtin,Sem.run_bind,Sem.run_pure,Result.andThen_ok,List.map_toArray,gE,List.map_nil,oa,U]
  cases hp
 cases hp
def sE(P:Program)(ops:Array Oper):List Oper->aG->List bI->Stepped
 | [],st,ans=>some (st,ans,[])
 | [o],st,ans=>nB P ops o st ans
 | o::cc::rest,st,ans=>
  match EF o cc with
  | some (d,t,x,cp,mw)=>
   match zx P st d t x cp mw ans with
   | some (c0,ea,eG)=>(sE P ops rest c0 ea).map fun r=>(r.1,r.2.1,eG++r.2.2)
   | none=>none
  | none=>
   match nB P ops o st ans with
   | some (c0,ea,eG)=>(sE P ops (cc::rest) c0 ea).map fun r=>(r.1,r.2.1,eG++r.2.2)
   | none=>none
theorem EG:∀(l:List Oper) {st a6:aG} {ans bN:List bI} {obs:List Prop},sE P ops l st ans=some (a6,bN,obs)->cn obs->
  ∀{a:Act} {w:World},Rel w0 st a w->(∀b4 aD,Rel w0 a6 b4 aD->Q .normal b4 aD)->wpList P ops Q l a w
 | [],st,a6,ans,bN,obs,h,_,a,w,aI,hh=>by
  simp only[sE,aH,a']at h;obtain⟨rfl,_,_⟩:=h;exact hh _ _ aI
 | [o],st,a6,ans,bN,obs,h,aM,a,w,aI,hh=>by
  simp only[sE]at h;exact Jn h aM aI fun b4 aD dA=>hh _ _ dA
 | o::cc::rest,st,a6,ans,bN,obs,h,aM,a,w,aI,hh=>by
  simp only[sE]at h;split at h
  ·rename_i d t x cp mw hp;split at h
   ·rename_i c0 ea eG J;rw[bF]at h;obtain⟨⟨bO,b6,cC⟩,U,h⟩:=h;simp only[a']at h;obtain⟨rfl,rfl,rfl⟩:=h;obtain⟨cu,c7⟩:=aM.append;exact SN hp J cu aI fun b4 aD dA=>EG rest U c7 dA hh
   cases h
  split at h
  ·rename_i c0 ea eG J;rw[bF]at h;obtain⟨⟨bO,b6,cC⟩,U,h⟩:=h;simp only[a']at h;obtain⟨rfl,rfl,rfl⟩:=h;obtain⟨cu,c7⟩:=aM.append;exact Jn J cu aI fun b4 aD dA=>EG (cc::rest) U c7 dA hh
  cases h
end Go.Sx
namespace Go.Sx
open Go.RowKit
abbrev eR:=List (Nat×Nat)
def eR.has(r:eR)(s:Nat):Bool:=r.any fun x=>decide (x.1<=s)&&decide (s<x.2)
def Tag.dK(r:eR):Tag->Bool
 | .free=>false
 | .own s=>r.has s
 | .ro s=>r.has s
def dR.dK(r:eR):dR->Bool
 | .aa t _ _=>t.dK r
 | _=>false
def aq.dK(r:eR):aq->Bool
 | .aa t _ _=>t.dK r
 | .ep t _ _ _ _=>t.dK r
 | .bE t _ _ _ _ _=>r.has t
 | .ef t vs=>r.has t||vs.any (dR.dK r)
 | _=>false
def bi.dK(r:eR):bi->Bool
 | .one l=>l.dK r
 | .agg ls=>ls.any (aq.dK r)
def az.dK(r:eR):az->Bool
 | .aN a=>a.dK r
 | .fD as=>as.any (bi.dK r)
def lz(g:Tag->Option Tag)(r:eR):Prop:=∀t:Tag,t.dK r=false->g t=some t
variable{g:Tag->Option Tag}{r:eR}
theorem aq.sP(ag:lz g r){l:aq}(h:l.dK r=false):l.b3 g (fun _=>true)=l:=by
 cases l with
 | aa t k es=>simp only[aq.dK]at h;simp only[aq.b3,ag t h]
 | ep t k es i j=>simp only[aq.dK]at h;simp only[aq.b3,ag t h]
 | ptr id off=>simp[aq.b3]
 | eL f ids=>simp[aq.b3]
 | bE t i j k es m=>simp only[aq.dK]at h;simp only[aq.b3,ag (.own t) h,fZ]
 | ef t vs=>
  simp only[aq.dK,jU]at h;simp only[aq.b3,ag (.own t) h.1,fZ]
  congr 1
  conv=>rhs;rw[<-oX vs]
  refine jA fun c ai=>?_
  have:=hP.1 h.2 c ai;cases c with
  | b5=>rfl
  | v x=>rfl
  | aa c3 k es=>simp only[dR.b3,ag c3 (by grind[dR.dK]),id]
 | _=>rfl
theorem IN(ag:lz g r){ls:List aq}(h:ls.any (aq.dK r)=false):ls.map (aq.b3 g fun _=>true)=ls:=by
 conv=>rhs;rw[<-oX ls]
 grind[jA,hP,aq.sP]
theorem bi.sP(ag:lz g r){a:bi}(h:a.dK r=false):a.map (aq.b3 g fun _=>true)=a:=by
 cases a with
 | one l=>grind[bi.dK,bi.map,aq.sP]
 | agg ls=>grind[bi.dK,bi.map,IN]
theorem az.sP(ag:lz g r){p:az}(h:p.dK r=false):p.map (aq.b3 g fun _=>true)=p:=by
 cases p with
 | aN a=>grind[az.dK,az.map,bi.sP]
 | fD as=>
  simp only[az.dK]at h;simp only[az.map]
  congr 1
  conv=>rhs;rw[<-oX as]
  grind[jA,hP,bi.sP]
structure cK where
 dst:Option Nat
 p:az
 use:List Nat
 kY:eR
abbrev k3:=Option (cK×(Tag->Option Tag)×List bI×List Prop)
def IP:Operand->Option Nat
 | .tmp t=>some t
 | _=>none
def vY:Option Nat->eR
 | none=>[]
 | some s=>[(s,s+1)]
def uX(P:Program)(st:aG)(d:Nat)(t:TypeId)(x y:Operand)(ans:List bI):k3:=
 match nP P t with
 | some (e,k)=>
  match P.info? e with
  | some i=>
   match i.zero,(st.aW x).leaf,x with
   | some z,some (.aa (.own fY) bS es),.tmp s=>
    match rB fY k (st.aW y) ans with
    | some (bm,c4,bN,obs)=>
     if bS=k/\z.cells.size=k/\0<k/\fY<cy then
      some (⟨some d,.one (.aa (.own fY) k (es++bm)),[s],(fY,fY+1)::vY c4⟩,f' fY c4,bN,((es.length+bm.length)*i.bytes<=140737488355328)::(es.length+bm.length<=9223372036854775807)::obs)
     else none
    | _=>none
   | some z,some (.v (.slice none 0 0)),_=>
    match rB d k ((st.aW y).map (aq.b3 (gv d []) fun _=>true)) ans with
    | some (bm,c4,bN,obs)=>
     if z.cells.size=k/\0<k/\d<cy then
      some (⟨some d,.one (.aa (.own d) k ([]++bm)),[],(d,d+1)::vY c4⟩,(fun g=>(gv d [] g).bind (f' d c4)),bN,(((([]:List (List D)).length)+bm.length)*i.bytes<=140737488355328)::(([]:List (List D)).length+bm.length<=9223372036854775807)::obs)
     else none
    | _=>none
   | _,_,_=>none
  | none=>none
 | none=>none
def AV(P:Program)(st:aG)(d:Nat)(t:TypeId)(x:Operand)(cp hi gV:Option Operand)(ans:List bI):k3:=
 match nP P t,(st.aW x).leaf,gV,x with
 | some (_,k),some (.aa (.own s) bS es),none,.tmp kZ=>
  if k=bS/\s<cy then
   match jO st cp,jO st hi with
   | some l,some h=>some (⟨some d,.one (.aa (.own s) k ((es.drop (l.getD 0).toNat).take ((h.getD es.length).toNat-(l.getD 0).toNat))),[kZ],[(s,s+1)]⟩,ik s s,ans,[0<=l.getD 0,l.getD 0<=h.getD es.length,h.getD es.length<=es.length])
   | _,_=>none
  else none
 | _,_,_,_=>none
variable{s:Nat}
theorem SO:lz (ik s s) [(s,s+1)]:=by
 intro t h;cases t with
 | free=>rfl
 | own x=>
  have:x≠s:=by rintro rfl;grind[Tag.dK,eR.has]
  grind[ik]
 | ro x=>
  simp_all[Tag.dK,eR.has,ik]
def It(P:Program)(d:Nat)(t:TypeId)(p q:az)(ans:List bI):k3:=
 match P.underlying t with
 | some (.slice e)=>
  match P.info? e,p.int,q.int with
  | some i,some (_,l),some (_,c)=>
   match i.zero with
   | some z=>
    if i.size=z.cells.size/\0<i.size/\z.cells.all (·.oneCell')=true/\d<cy then
     some (⟨some d,.one (.aa (.own d) i.size (List.replicate l.toNat (z.cells.toList.map .v))),[],[(d,d+1)]⟩,gv d [],ans,[0<=l,l<=c,(i.bytes:Int)*c<=281474976710656,c<=9223372036854775807])
    else none
   | none=>none
  | _,_,_=>none
 | _=>none
def o'(P:Program)(st:aG)(o:Oper)(ans:List bI):k3:=
 match o.dst,o.op with
 | some d,.call ⟨.value (.func f),args,_⟩=>
  match P.funcs[f]?,args.toList.mapM (fun x=>(st.aW x).hU st.boxes),ans with
  | some fn,some e1,.res rs::r=>
   if (fn.name == "runtime.NumGoroutine") = false /\ fn.body.isNone = false /\ qR rs = true /\ 10000 * (d + 1) + 10000 <= cy then
    some (⟨some d,pY (10000*(d+1)) rs,[],[(10000*(d+1),10000*(d+1)+10000)]⟩,e5 (10000*(d+1)),r,[gm P f e1 rs])
   else none
  | _,_,_=>none
 | some d,.buildSlice t n parts=>
  match xH P st d t n parts.toList with
  | some (k,es,ms)=>some (⟨some d,.one (.aa (.own d) k es),[],(d,d+1)::ms.map fun x=>(x.1,x.1+1)⟩,gv d ms,ans,[])
  | _=>none
 | some d,.call ⟨.builtin .append,⟨[x,y]⟩,⟨[t,c3]⟩⟩=>if t=c3 then uX P st d t x y ans else none
 | some _,.box _ _=>none
 | some d,.alloc ty=>
  match P.info? ty with
  | some i=>match i.zero with
   | some z=>if d<cy then some (⟨some d,.one (.ef d (z.cells.toList.map .v)),[],[(d,d+1)]⟩,gv d [],ans,[]) else none
   | none=>none
  | none=>none
 | some d,.makeSlice t l c=>It P d t (st.aW l) (st.aW c) ans
 | some d,.slice t x cp hi gV=>if Ik ans then AV P st d t x cp hi gV ans.tail else (nE P st (.slice t x cp hi gV) ans).map fun r=>(⟨some d,r.1,[],[]⟩,some,r.2.1,r.2.2)
 | some d,op=>(nE P st op ans).map fun r=>(⟨some d,r.1,[],[]⟩,some,r.2.1,r.2.2)
 | none,.store ty (.tmp s) y=>
  match (st.env.getD s .b5).leaf,CX (st.aW y),P.info? ty with
  | some (.ef t vs),some cs,some i=>
   if cs.length=i.size/\cs.length<=vs.length then
    some (⟨some s,.one (.ef t ((cs++vs.drop cs.length).map (dR.b3 (eb t)))),[],[(t,t+1)]⟩,eb t,ans,[])
   else none
  | _,_,_=>none
 | none,_=>none
theorem SP:lz (eb s) [(s,s+1)]:=by
 intro t h;cases t with
 | free=>rfl
 | own x=>
  have:x≠s:=by rintro rfl;grind[Tag.dK,eR.has]
  grind[eb]
 | ro x=>
  have:x≠s:=by rintro rfl;grind[Tag.dK,eR.has]
  grind[eb]
theorem SQ:dR.b3 some=id:=by funext c;cases c<;>rfl
theorem SR(st:aG)(f:aq->aq)(bn:∀x,f (.v x)=.v x)(hu:f .b5=.b5)(ay:∀d,f (.fd d)=.fd d)(x:Operand):(st.map f).aW x=(st.aW x).map f:=by
 cases x with
 | tmp t=>
  simp only[aG.aW,aG.map];rw[jz,jz,dG];cases st.env[t]? with
  | none=>simp[az.map,bi.map,hu]
  | some p=>rfl
 | const v=>
  simp only[aG.aW,xK];split
  ·simp[az.map,bi.map,bn]
  grind[az.map,bi.map]
 | global g=>simp[aG.aW,az.map,bi.map,hu]
 | func aeX=>simp[aG.aW,az.map,bi.map,ay]
theorem aq.adN(g1 g2:Tag->Option Tag)(U:∀g t,g2 g=some (.own t)->g=.own t)(l:aq):aq.b3 g2 (fun _=>true) (aq.b3 g1 (fun _=>true) l)=aq.b3 (fun t=>(g1 t).bind g2) (fun _=>true) l:=by
 cases l with
 | aa t k es=>grind[aq.b3]
 | ep t k es i j=>grind[aq.b3]
 | eL f ids=>simp[aq.b3]
 | bE t i j k es m=>
  simp only[aq.b3];cases aK:g1 (.own t) with
  | none=>grind
  | some x=>
   simp only[mB];grind
 | ef t vs=>
  simp only[aq.b3];cases aK:g1 (.own t) with
  | none=>grind
  | some x=>
   simp only[mB];cases x with
   | own s=>
    simp only;by_cases ad:s=t
    ·subst ad;simp only[fZ,aq.b3];have iB:(vs.map (dR.b3 g1)).map (dR.b3 g2)=vs.map (dR.b3 fun t=>(g1 t).bind g2):=by
      rw[List.map_map];refine jA fun c _=>?_
      cases c with
      | b5=>rfl
      | v x=>rfl
      | aa c3 k es=>
       simp only[Function.comp,dR.b3];grind
     rw[iB]
    grind
   | free=>
    grind
   | ro s=>
    grind
 | ptr id off=>simp[aq.b3]
 | _=>rfl
theorem bi.map_map(f g:aq->aq)(a:bi):(a.map f).map g=a.map (g ∘ f):=by cases a<;>simp[bi.map]
theorem az.map_map(f g:aq->aq)(p:az):(p.map f).map g=p.map (g ∘ f):=by
 cases p with
 | aN a=>simp[az.map,bi.map_map]
 | fD as=>simp only[az.map,List.map_map];simp_all[congr,jA,bi.map_map]
theorem aG.map_map(f g:aq->aq)(s:aG):(s.map f).map g=s.map (g ∘ f):=by
 simp only[aG.map,List.map_map]
 congr 1
 ·grind[jA,az.map_map]
 simp_all
theorem IQ(r:eR):lz some r:=fun _ _=>rfl
theorem eR.qh{a b:Nat}(h:eR.has ((a,b)::r) s=false):(s<a\/b<=s)/\eR.has r s=false:=by
 grind[eR.has,jU,Bool.and_eq_false_iff,mG]
variable{t:Nat}
theorem SS:lz (e5 t) [(t,t+10000)]:=by
 intro g ag;cases g with
 | free=>rfl
 | own s=>
  obtain⟨J,_⟩:=eR.qh ag;simp only[e5];grind
 | ro s=>
  obtain⟨J,_⟩:=eR.qh ag;simp only[e5];grind
theorem EH:∀{ms:fT},(eR.has (ms.map fun x=>(x.1,x.1+1)) s)=false->(ms.at s).isSome=false
 | [],_=>rfl
 | (i,p)::r,h=>by
  simp only[eR.has,gE,AF,jU,Bool.and_eq_false_iff,mG]at h;simp only[fT.at];rw[aZ (by omega)];exact EH (by simpa only[eR.has]using h.2)
theorem SU{ms:fT}:lz (gv t ms) ((t,t+1)::ms.map fun x=>(x.1,x.1+1)):=by
 intro g ag;cases g with
 | free=>rfl
 | own s=>
  obtain⟨J,U⟩:=eR.qh ag;simp only[gv];rw[aZ (by omega),EH U];rfl
 | ro s=>
  obtain⟨J,U⟩:=eR.qh ag;simp only[gv];rw[aZ (by omega),EH U];rfl
theorem IS{c4:Option Nat}(h:eR.has (vY c4) s=false):c4≠some s:=by
 rintro rfl;grind[eR.has,vY]
theorem IT(t:Nat)(c4:Option Nat):lz (f' t c4) ((t,t+1)::vY c4):=by
 intro g ag;cases g with
 | free=>rfl
 | own s=>
  obtain⟨J,U⟩:=eR.qh ag;simp only[f'];rw[aZ (by omega),aZ (IS U)]
 | ro s=>
  obtain⟨J,U⟩:=eR.qh ag;simp only[f'];rw[aZ (by omega),aZ (IS U)]
theorem EI(t:Nat)(r:eR):lz (gv t []) ((t,t+1)::r):=by
 intro g ag;cases g with
 | free=>rfl
 | own s=>
  obtain⟨J,U⟩:=eR.qh ag;simp only[gv];rw[aZ (by omega)];rfl
 | ro s=>
  obtain⟨J,U⟩:=eR.qh ag;simp only[gv];rw[aZ (by omega)];rfl
variable{P:Program}{st:aG}{e:cK}{obs:List Prop}
theorem IU{d:Nat}{t:TypeId}{x y:Operand}{ans bN:List bI}(h:uX P st d t x y ans=some (e,g,bN,obs)):lz g e.kY/\e.dst=some d:=by
 unfold uX at h;split at h
 ·split at h
  ·split at h
   ·split at h
    ·split at h
     ·simp only[aH,a']at h;obtain⟨rfl,rfl,_,_⟩:=h;simp_all[IT]
     cases h
    cases h
   ·split at h
    ·split at h
     ·simp only[aH,a']at h;obtain⟨rfl,rfl,_,_⟩:=h;exact⟨fun t bH=>by simp only[EI d _ t bH,mB];exact IT d _ t bH,rfl⟩
     cases h
    cases h
   cases h
  cases h
 cases h
theorem IV{o:Oper}{ans bN:List bI}(h:o' P st o ans=some (e,g,bN,obs)):
  lz g e.kY/\∃d,e.dst=some d/\ly P st o ans=some (⟨(st.map (aq.b3 g fun _=>true)).env.set d e.p,(st.map (aq.b3 g fun _=>true)).boxes⟩,bN,obs):=by
 obtain⟨dst,op,type,pos,after,guard⟩:=o;have fp:∀st:aG,st.map (aq.b3 some fun _=>true)=st:=by
  intro st;have:(aq.b3 some fun _=>true)=_root_.id:=by
   funext l;cases l<;>simp[aq.b3,SQ]
  rw[this];simp only[aG.map];have J:az.map _root_.id=_root_.id:=by
   funext p;cases p with
   | aN a=>cases a<;>simp[az.map,bi.map]
   | fD as=>
    simp only[az.map,id]
    congr 1
    have:bi.map _root_.id=_root_.id:=by funext a;cases a<;>simp[bi.map]
    simp_all
  simp_all
 simp only[o']at h;split at h
 ·rename_i d f args ts;split at h
  ·rename_i fn e1 rs r J U;split at h
   ·rename_i ai;simp only[aH,a']at h;obtain⟨rfl,rfl,rfl,rfl⟩:=h;refine⟨SS,d,rfl,?_⟩;simp only[ly,ml,Ij,oT,mF,EC,J,U,kh];rw[bb ai];rfl
   cases h
  cases h
 ·rename_i d t n parts;split at h
  ·rename_i k es ms ah;simp only[aH,a']at h;obtain⟨rfl,rfl,rfl,rfl⟩:=h;refine⟨SU,d,rfl,?_⟩;simp only[ly,ml];exact R0 ah ans
  cases h
 ·rename_i d x y t c3;split at h
  ·rename_i vM;subst vM;refine⟨(IU h).1,d,(IU h).2,?_⟩;simp only[ly,ml,fZ,Sx.uF];unfold uX at h;split at h
   ·rename_i rG k he;simp only[he];split at h
    ·rename_i i hi;simp only[hi];split at h
     ·rename_i z fY bS es s aL ak;split at h
      ·rename_i bm c4 a2 cc ad;split at h
       ·rename_i ai;obtain⟨rfl,ai⟩:=ai;simp only[aH,a']at h;obtain⟨rfl,rfl,rfl,rfl⟩:=h;simp only[xD,ak,fZ,aL,ad];rw[bb ai];rfl
       cases h
      cases h
     ·rename_i z _ aL ak;split at h
      ·rename_i bm c4 a2 cc ad;split at h
       ·rename_i ai;simp only[aH,a']at h;obtain⟨rfl,rfl,rfl,rfl⟩:=h;have oa:(st.ho d []).aW y=(st.aW y).map (aq.b3 (gv d []) fun _=>true):=SR st _ (fun _=>rfl) rfl (fun _=>rfl) y;simp only[xD,ak,aL,oa,ad];rw[bb ai];have:(st.ho d []).s5 d c4=st.map (aq.b3 (fun g=>(gv d [] g).bind (f' d c4)) fun _=>true):=by
         simp only[aG.ho,aG.s5,aG.map_map]
         congr 1
         funext l;refine aq.adN _ _ (fun g t h=>?_) l;cases g with
         | free=>grind[f']
         | own s=>
          grind[f']
         | ro s=>
          grind[f']
        rw[this]
       cases h
      cases h
     cases h
    cases h
   cases h
  cases h
 ·cases h
 ·rename_i d ty;split at h
  ·rename_i i hi;split at h
   ·rename_i z aL;split at h
    ·rename_i ay;simp only[aH,a']at h;obtain⟨rfl,rfl,rfl,rfl⟩:=h;refine⟨EI _ _,d,rfl,?_⟩;simp only[ly,zt,hi,aL];rw[bb ay];rfl
    cases h
   cases h
  cases h
 ·rename_i d t l c;unfold It at h;split at h
  ·rename_i e hu;split at h
   ·rename_i i cf ff bM hV hi aK aO;split at h
    ·rename_i z aL;split at h
     ·rename_i ai;simp only[aH,a']at h;obtain⟨rfl,rfl,rfl,rfl⟩:=h;refine⟨EI _ _,d,rfl,?_⟩;simp only[ly,ml,zk,hu,hi,aK,aO,aL];rw[bb ai];rfl
     cases h
    cases h
   cases h
  cases h
 ·rename_i d t x cp hi gV;split at h
  ·rename_i aM;unfold AV at h;split at h
   ·rename_i e k s bS es kZ aK aO;split at h
    ·rename_i ai;obtain⟨rfl,ad⟩:=ai;split at h
     ·rename_i l bq b2 eY;simp only[aH,a']at h;obtain⟨rfl,rfl,rfl,rfl⟩:=h;refine⟨SO,d,rfl,?_⟩;simp_all[ly,ml,fZ,uG,lx,true_and]
     cases h
    cases h
   cases h
  rename_i aM;rw[bF]at h;obtain⟨⟨bO,b6,cC⟩,J,h⟩:=h;simp only[a']at h;obtain⟨rfl,rfl,rfl,rfl⟩:=h;simp_all[IQ,ly,ml,aZ]
 ·rename_i d ov pH vZ ow tI n6 v7;rw[bF]at h;obtain⟨⟨bO,b6,cC⟩,J,h⟩:=h;simp only[a']at h;obtain⟨rfl,rfl,rfl,rfl⟩:=h;refine⟨IQ _,d,rfl,?_⟩;rw[fp];have Hj:ly P st ⟨some d,op,type,pos,after,guard⟩ ans=ml P st ⟨some d,op,type,pos,after,guard⟩ ans:=by
   simp_all[ly]
  grind[ml,nE]
 ·rename_i ty s y;split at h
  ·rename_i fY vs v i aK aO b2;split at h
   ·rename_i ai;simp only[aH,a']at h;obtain⟨rfl,rfl,rfl,rfl⟩:=h;refine⟨SP,s,rfl,?_⟩;simp only[ly,zv,aK,aO,b2];grind
   cases h
  cases h
 cases h
theorem Rel.weaken{w0:dC}{a6:aG}{a:Act}{w:World}(h:Rel w0 st a w)(aR:a6.env.length=st.env.length)(ah:a6.boxes=st.boxes)
  (he:∀(i:Nat) (p:az),a6.env[i]?=some p->p=.b5\/st.env[i]?=some p):Rel w0 a6 a w:=by
 obtain⟨ω,τ,h⟩:=h;refine⟨ω,τ,h.defers,h.size.trans aR.symm,h.below,h.owned,h.fixed,h.pinned,fun i p hp=>?_,by rw[ah];exact h.boxes⟩;rcases he i p hp with rfl | U
 ·have:i<a.tmps.size:=by
   rw[h.size,<-aR];grind
  exact⟨a.tmps[i],by simp[this],aj⟩
 exact h.env i p U
def cK.e7(e:cK)(t:Nat):Option az:=if e.dst=some t then some e.p else if t∈e.use then some .b5 else none
def tR(env:List az):List Nat->List az
 | s::us=>tR (env.set s .b5) us
 | []=>env
theorem IW:∀(us:List Nat) (env:List az) (t:Nat),(tR env us)[t]?=(env[t]?).map fun p=>if t∈us then .b5 else p
 | [],env,t=>by simp[tR]
 | s::us,env,t=>by
  simp only[tR,IW us,iL,dj];grind
def cK.apply(e:cK)(env:List az):List az:=
 match e.dst with
 | some d=>(tR env e.use).set d e.p
 | none=>env
theorem cK.apply_get(ay:e.dst≠none)(env:List az)(t:Nat):(e.apply env)[t]?=(env[t]?).map fun p=>(e.e7 t).getD p:=by
 unfold cK.apply cK.e7;split
 ·rename_i d dp;have ad:∀(t:Nat),(tR env e.use)[t]?=(env[t]?).map fun p=>if t∈e.use then .b5 else p:=IW e.use env
  grind
 grind
def fz(L:Nat->Bool)(t:Nat):Nat->List cK->az->az
 | _,[],acc=>acc
 | k,e::es,acc=>fz L t (k+1) es (if L k then (e.e7 t).getD acc else acc)
variable{L:Nat->Bool}
theorem wz{L':Nat->Bool}:∀{es:List cK} {k:Nat} {acc:az},(∀(j:Nat) (e:cK),es[j]?=some e->e.e7 t≠none->L (k+j)=L' (k+j))->fz L t k es acc=fz L' t k es acc
 | [],_,_,_=>rfl
 | e::es,k,acc,h=>by
  simp only[fz];have bX:(if L k then (e.e7 t).getD acc else acc)=(if L' k then (e.e7 t).getD acc else acc):=by
   cases bH:e.e7 t with
   | none=>simp
   | some p=>have:=h 0 e rfl (by simp[bH]);grind
  rw[bX];exact wz fun j e' aU bH=>by have:=h (j+1) e' (by grind) bH;grind
theorem IX{p:az}:∀{es:List cK} {k i:Nat} {acc:az} {e:cK},es[i]?=some e->e.e7 t=some p->L (k+i)=true->
  (∀(j:Nat) (e':cK),i<j->es[j]?=some e'->e'.e7 t≠none->L (k+j)=false)->fz L t k es acc=p
 | [],_,_,_,_,h,_,_,_=>by simp at h
 | b8::es,k,0,acc,e,h,bH,b9,ih=>by
  simp at h;subst h;simp only[fz];rw[lM]at b9;rw[b9,bH];simp only[fZ,kh];have:∀(es:List cK) (k:Nat),(∀(j:Nat) (e':cK),es[j]?=some e'->e'.e7 t≠none->L (k+j)=false)->fz L t k es p=p:=by
   intro es;induction es with
   | nil=>intro k _;rfl
   | cons aK es dw=>
    intro k h;simp only[fz];have J:(if L k then (aK.e7 t).getD p else p)=p:=by
     cases bH:aK.e7 t with
     | none=>simp
     | some q=>have:=h 0 aK rfl (by simp[bH]);grind
    rw[J];exact dw (k+1) fun j e' aU vL=>by have:=h (j+1) e' (by grind) vL;grind
  exact this es (k+1) fun j e' aU vL=>by have:=ih (j+1) e' (by omega) (by grind) vL;grind
 | b8::es,k,i+1,acc,e,h,bH,b9,ih=>by
  simp only[fz];exact IX (i:=i) (by simpa using h) bH (by rwa[show k+1+i=k+(i+1) by omega]) fun j e' aU vw vL=>by
   have:=ih (j+1) e' (by omega) (by simpa using vw) vL;rwa[show k+(j+1)=k+1+j by omega]at this
def dU(env0:List az)(bs:List (Nat×List aq))(L:Nat->Bool)(es:List cK):aG:=⟨env0.zipIdx.map fun x=>fz L x.2 0 es x.1,bs⟩
variable{bs:List (Nat×List aq)}
theorem nH{env0:List az}{es:List cK}(t:Nat):(dU env0 bs L es).env[t]?=(env0[t]?).map fun p=>fz L t 0 es p:=by
 simp only[dU,dG,List.getElem?_zipIdx,cP];grind
theorem tS{env0:List az}{es:List cK}:(dU env0 bs L es).env.length=env0.length:=by simp[dU]
def EJ(ops:Array Oper)(o:Oper):Option Nat:=o.guard.bind fun x=>(ops[x.1]?).bind (·.dst)
def reads(ops:Array Oper)(o:Oper):List Nat:=o.op.operands.toList.filterMap IP++(EJ ops o).toList
def tT(d:Nat):cK:=⟨some d,.one (.v undef),[],[]⟩
def ext(e:cK)(env:List az):cK:=
 if e.kY.isEmpty then e else { e with use:=e.use++(env.zipIdx.filterMap fun x=>if x.1.dK e.kY&&!(e.dst==some x.2) then some x.2 else none) }
theorem EK(e:cK)(env:List az):∃u,ext e env={ e with use:=u }:=by
 unfold ext;split
 ·grind
 grind
structure gn where
 t:Nat
 i:Nat
 j:Nat
 k:Nat
 kT:Nat
 es:List (List D)
 esT:List (List D)
def zY(t:Nat)(bs:List (Nat×List aq)):Option (Nat×List (List D)):=
 (bs.find? fun x=>(x.2.findSome? (pZ t)).isSome).bind fun x=>(cM x.1 bs).bind fun ls=>ls.findSome? (pZ t)
theorem SV{w0:dC}{a:Act}{w:World}{ω:Own}{τ:Nat->Nat×Value}(h:b1 w0 st a w ω τ){kT:Nat}{esT:List (List D)}(e:zY t st.boxes=some (kT,esT)):∃v,Sat w ω τ (.aa (.own t) kT esT) v:=by
 unfold zY at e;rw[jT]at e;obtain⟨x,_,e⟩:=e;rw[jT]at e;obtain⟨ls,ah,e⟩:=e;obtain⟨l,ak,e⟩:=List.exists_of_findSome?_eq_some e;obtain⟨b,arr,ty,_,_,_,ad⟩:=h.boxes _ ls ah;obtain⟨n,aR⟩:=mA.1 ak;obtain⟨u,_,hu⟩:=ad.2 n l aR;exact⟨u,Db e hu⟩
def oB(st:aG)(o:Oper):Option gn:=
 match o.dst,o.op with
 | some _,.call ⟨.builtin .append,⟨[x,_]⟩,⟨[_,_]⟩⟩=>
  match (st.aW x).leaf with
  | some (.bE s i j k es .here)=>
   match zY s st.boxes with
   | some (kT,esT)=>some ⟨s,i,j,k,kT,es,esT⟩
   | none=>none
  | _=>none
 | _,_=>none
def rc(P:Program)(st:aG)(o:Oper)(ans:List bI):Option (cK×List bI×List Prop):=
 match oB st o,o.dst,o.op with
 | some v,some d,.call ⟨.builtin .append,⟨[_,y]⟩,⟨[t,c3]⟩⟩=>
  if t=c3 then (qd P t v.t v.i v.j v.k v.es v.esT (st.aW y) ans).map fun r=>(⟨some d,r.1,[],[]⟩,r.2.1,r.2.2) else none
 | _,_,_=>none
def gn.fix(v:gn):aq->Option (List Prop)
 | .aa (.own s) et cX=>if s=v.t then (if et=v.kT then some [cX=v.esT] else none) else some []
 | .ep (.own s) et cX _ _=>if s=v.t then (if et=v.kT then some [cX=v.esT] else none) else some []
 | .aa (.ro s) _ _=>if s=v.t then none else some []
 | .ep (.ro s) _ _ _ _=>if s=v.t then none else some []
 | .bE s a b et cX m=>if s=v.t/\b=v.j then (if et=v.k/\m.home=true then some [a=v.i,cX=v.es] else none) else some []
 | .ef _ _=>none
 | _=>some []
def gn.kk(v:gn)(l:aq):Prop:=fA v.t v.i v.j v.k v.es v.kT v.esT l=l/\∀a∈l.idx v.t v.j,a=v.i
theorem gn.O6{v:gn}{l:aq}(h:v.fix l=some obs)(aM:cn obs):v.kk l:=by
 obtain⟨t,i,j,k,kT,es,esT⟩:=v;unfold gn.kk;simp only;cases l with
 | aa g et cX=>
  refine⟨?_,fun a aC=>by grind[aq.idx]⟩;cases g with
  | free=>rfl
  | own s=>
   simp only[gn.fix]at h;split at h
   ·rename_i ad;subst ad;split at h
    ·rename_i aT;subst aT;cases h;have e:cX=esT:=aM.1;grind[fA]
    cases h
   grind[fA]
  | ro s=>
   grind[gn.fix,fA]
 | ep g et cX x y=>
  refine⟨?_,fun a aC=>by grind[aq.idx]⟩;cases g with
  | free=>rfl
  | own s=>
   simp only[gn.fix]at h;split at h
   ·rename_i ad;subst ad;split at h
    ·rename_i aT;subst aT;cases h;have e:cX=esT:=aM.1;grind[fA]
    cases h
   grind[fA]
  | ro s=>
   grind[gn.fix,fA]
 | bE s a b et cX m=>
  simp only[gn.fix]at h;split at h
  ·rename_i ad;obtain⟨rfl,rfl⟩:=ad;split at h
   ·rename_i aT;cases h;have aK:a=i:=aM.1;have aO:cX=es:=aM.2.1;simp_all[fA,aq.idx]
   cases h
  simp_all[fA,aZ,aq.idx]
 | ef t vs=>cases h
 | _=>exact⟨rfl,fun a aC=>by grind[aq.idx]⟩
def bi.qB:bi->List aq
 | .one l=>[l]
 | .agg ls=>ls
def az.qB:az->List aq
 | .aN a=>a.qB
 | .fD as=>as.flatMap bi.qB
theorem bi.vW{p:aq->Prop}{a:bi}(h:∀l∈a.qB,p l):a.jb p:=by
 cases a with
 | one l=>exact h l (by simp[bi.qB])
 | agg ls=>exact h
theorem az.vW{p:aq->Prop}{q:az}(h:∀l∈q.qB,p l):q.jb p:=by
 cases q with
 | aN a=>exact bi.vW h
 | fD as=>exact fun a aC=>bi.vW fun l ak=>h l (lL.2 ⟨a,aC,ak⟩)
def gn.fixes(v:gn):List aq->Option (List Prop)
 | []=>some []
 | l::r=>
  match v.fix l,gn.fixes v r with
  | some a,some b=>some (a++b)
  | _,_=>none
theorem gn.Hd{v:gn}:∀{ls:List aq} {obs:List Prop},v.fixes ls=some obs->cn obs->∀l∈ls,v.kk l
 | [],_,_,_,l,ak=>by cases ak
 | fO::r,obs,h,aM,l,ak=>by
  simp only[gn.fixes]at h;split at h
  ·rename_i a b J U;cases h;obtain⟨cu,cc⟩:=aM.append;rcases dj.1 ak with rfl | ak
   ·grind[gn.O6]
   exact gn.Hd U cc l ak
  cases h
def uE(bs:List (Nat×List aq))(all:Nat->List aq):Nat->List Oper->List az->List cK->Option (List Prop)
 | i,o::os,env,e::es=>
  match oB ⟨env,bs⟩ o with
  | some v=>
   match v.fixes (all i),uE bs all (i+1) os (e.apply env) es with
   | some a,some b=>some (a++b)
   | _,_=>none
  | none=>uE bs all (i+1) os (e.apply env) es
 | _,_,_,_=>some []
theorem IY{all:Nat->List aq}:∀{l:List Oper} {es:List cK} {env:List az} {i0:Nat} {obs:List Prop},uE bs all i0 l env es=some obs->cn obs->
  ∀(i:Nat) (o:Oper),l[i]?=some o->i<es.length->∀v,oB ⟨(es.take i).foldl (fun env e=>e.apply env) env,bs⟩ o=some v->∀iG∈all (i0+i),v.kk iG
 | [],_,_,_,_,_,_,i,o,hi,_,_,_,_,_=>by simp at hi
 | _::_,[],_,_,_,_,_,i,o,_,ak,_,_,_,_=>by simp at ak
 | afQ::os,e::es,env,i0,obs,h,aM,i,o,hi,ak,v,a8,iG,BR=>by
  simp only[uE]at h;cases i with
  | zero=>
   simp only[jB,aH]at hi;subst hi;simp only[List.take_zero,List.foldl_nil]at a8;rw[a8]at h;simp only at h;split at h
   ·rename_i a b J U;cases h;exact gn.Hd J aM.append.1 iG BR
   cases h
  | succ i=>
   have go:∀{b:List Prop},uE bs all (i0+1) os (e.apply env) es=some b->cn b->v.kk iG:=fun U cc=>
    IY U cc i o (by grind) (by grind) v (by grind) iG (by grind)
   split at h
   ·split at h
    ·rename_i a b J U;cases h;exact go U aM.append.2
    cases h
   grind
def qW(P:Program)(ops:Array Oper)(gs:List Nat)(bs:List (Nat×List aq)):List Oper->List az->List bI->Option (List cK×List az×List bI×List Prop)
 | [],env,ans=>some ([],env,ans,[])
 | o::rest,env,ans=>
  match oA ops ⟨env,bs⟩ o [] with
  | some (true,_,_,_)=>
   match o' P ⟨env,bs⟩ o ans with
   | some (e,_,ea,eG)=>
    match (match o.dst with | some d=>gs.contains d | none=>false),e.p.leaf,ea with
    | true,some (.bP c),.lP b::r=>
     (qW P ops gs bs rest (cK.apply { ext e env with p:=.one (.v (.bool b)) } env) r).map fun x=>({ ext e env with p:=.one (.v (.bool b)) }::x.1,x.2.1,x.2.2.1,(c=b)::(eG++x.2.2.2))
    | _,_,_=>(qW P ops gs bs rest ((ext e env).apply env) ea).map fun x=>(ext e env::x.1,x.2.1,x.2.2.1,eG++x.2.2.2)
   | none=>
    match rc P ⟨env,bs⟩ o ans with
    | some (e,ea,eG)=>(qW P ops gs bs rest (e.apply env) ea).map fun x=>(e::x.1,x.2.1,x.2.2.1,eG++x.2.2.2)
    | none=>none
  | some (false,_,_,_)=>
   match o.dst with
   | some d=>(qW P ops gs bs rest ((tT d).apply env) ans).map fun x=>(tT d::x.1,x.2.1,x.2.2.1,x.2.2.2)
   | none=>none
  | none=>none
def Fact(P:Program)(ops:Array Oper)(bs:List (Nat×List aq))(env:List az)(o:Oper)(e:cK):Prop:=
 (∃c0 dy cu,oA ops ⟨env,bs⟩ o []=some (false,c0,dy,cu)/\∃d,o.dst=some d/\e=tT d)\/
 (∃c0 dy cu,oA ops ⟨env,bs⟩ o []=some (true,c0,dy,cu)/\∃ans b8 g bN obs,o' P ⟨env,bs⟩ o ans=some (b8,g,bN,obs)/\cn obs/\
  ∃u,(e={ b8 with use:=u }\/∃c b,b8.p=.one (.bP c)/\c=b/\e={ b8 with use:=u,p:=.one (.v (.bool b)) }))\/
 (∃c0 dy cu,oA ops ⟨env,bs⟩ o []=some (true,c0,dy,cu)/\∃ans bN obs,rc P ⟨env,bs⟩ o ans=some (e,bN,obs)/\cn obs)
theorem wA{ops:Array Oper}{gs:List Nat}:∀{l:List Oper} {env qk:List az} {ans bN:List bI} {es:List cK} {obs:List Prop},
  qW P ops gs bs l env ans=some (es,qk,bN,obs)->cn obs->
  es.length=l.length/\qk=es.foldl (fun env e=>e.apply env) env/\∀(i:Nat) (o:Oper),l[i]?=some o->∃e,es[i]?=some e/\Fact P ops bs ((es.take i).foldl (fun env e=>e.apply env) env) o e
 | [],env,qk,ans,bN,es,obs,h,_=>by
  simp_all[qW,aH,a']
 | o::rest,env,qk,ans,bN,es,obs,h,aM=>by
  have fin:∀(e:cK) (cX:List cK) (A0:List az),(cX.length=rest.length/\A0=cX.foldl (fun env e=>e.apply env) (e.apply env)/\∀(i:Nat) (o:Oper),rest[i]?=some o->∃e',cX[i]?=some e'/\Fact P ops bs ((cX.take i).foldl (fun env e=>e.apply env) (e.apply env)) o e')->
    Fact P ops bs env o e->(e::cX).length=(o::rest).length/\A0=(e::cX).foldl (fun env e=>e.apply env) env/\∀(i:Nat) (nz:Oper),(o::rest)[i]?=some nz->∃e',(e::cX)[i]?=some e'/\Fact P ops bs (((e::cX).take i).foldl (fun env e=>e.apply env) env) nz e':=by
   intro e cX A0 ⟨J,U,ax⟩ bn;refine⟨by simp[J],U,fun i nz jM=>?_⟩;cases i with
   | zero=>grind
   | succ i=>grind
  simp only[qW]at h;split at h
  ·rename_i c0 dy cu hw;split at h
   ·rename_i e g ea eG ay;split at h
    ·rename_i c b r ag ak;rw[bF]at h;obtain⟨⟨jR,iu,rj,p8⟩,J,h⟩:=h;simp only[a']at h;obtain⟨rfl,rfl,_,rfl⟩:=h;have Iy:(c=b)/\cn p8:=⟨aM.1,(cn.append aM.2).2⟩
     have v':=(cn.append aM.2).1;refine fin _ _ _ (wA J Iy.2) (.inr (.inl ⟨_,_,_,hw,_,_,_,_,_,ay,v',(EK e env).choose,.inr ⟨c,b,?_,?_,?_⟩⟩))
     ·cases hp:e.p with
      | aN a=>
       rw[hp]at ak;cases a with
       | one l=>grind[az.leaf,aH]
       | agg ls=>cases ak
      | fD as=>rw[hp]at ak;cases ak
     ·exact Iy.1
     grind
    rw[bF]at h;obtain⟨⟨jR,iu,rj,p8⟩,J,h⟩:=h;simp only[a']at h;obtain⟨rfl,rfl,_,rfl⟩:=h;obtain⟨v',cc⟩:=aM.append;exact fin _ _ _ (wA J cc) (.inr (.inl ⟨_,_,_,hw,_,_,_,_,_,ay,v',(EK e env).choose,.inl (EK e env).choose_spec⟩))
   split at h
   ·rename_i e ea eG B8;rw[bF]at h;obtain⟨⟨jR,iu,rj,p8⟩,J,h⟩:=h;simp only[a']at h;obtain⟨rfl,rfl,_,rfl⟩:=h;obtain⟨v',cc⟩:=aM.append;exact fin _ _ _ (wA J cc) (.inr (.inr ⟨_,_,_,hw,_,_,_,B8,v'⟩))
   cases h
  ·rename_i c0 dy cu hw;split at h
   ·rename_i d ay;rw[bF]at h;obtain⟨⟨jR,iu,rj,p8⟩,J,h⟩:=h;simp only[a']at h;obtain⟨rfl,rfl,_,rfl⟩:=h;exact fin _ _ _ (wA J aM) (.inl ⟨_,_,_,hw,d,ay,rfl⟩)
   cases h
  cases h
end Go.Sx
namespace Go.Sx
open Go.RowKit
variable{st a6:aG}
theorem Kn{parts:List (Nat×Operand)}(h:∀x∈parts,st.aW x.2=a6.aW x.2):(parts.map fun x=>(x.1,st.aW x.2))=parts.map fun x=>(x.1,a6.aW x.2):=
 jA fun x ae=>by rw[h x ae]
variable{P:Program}{ans:List bI}
theorem Ko{op:Op}(ah:st.boxes=a6.boxes)(h:∀x∈op.operands.toList,st.aW x=a6.aW x):nE P st op ans=nE P a6 op ans:=by
 cases op<;>simp only[nE,Op.operands,dj,List.mem_nil_iff,forall_eq_or_imp,or_false,forall_eq]at h ⊢
 case load t x=>grind[yC]
 case slice t x cp hi gV=>
  have ae:st.aW x=a6.aW x:=h x (by simp);have aM:∀o:Option Operand,(∀y,o=some y->st.aW y=a6.aW y)->jO st o=jO a6 o:=by
   intro o aM;cases o with
   | none=>rfl
   | some y=>simp_all[jO]
  simp_all[yD]
 case build t b'=>
  have:(b'.toList.map fun x=>(x.1,st.aW x.2))=b'.toList.map fun x=>(x.1,a6.aW x.2):=Kn fun x ae=>h x.2 (by grind)
  grind[yE]
 case call c=>
  obtain⟨callee,args,ts⟩:=c;cases callee with
  | value f=>rfl
  | invoke r i=>rfl
  | builtin b=>
   simp only[Call.operands]at h;have pe:∀x∈args.toList,st.aW x=a6.aW x:=fun x ae=>h x (by grind)
   simp only;generalize args.toList=l at pe;unfold zh;grind
 case makeFunc fn first captured=>
  have ai:captured.toList.map st.aW=captured.toList.map a6.aW:=jA fun x ae=>h x (by grind)
  simp only[zg,ai]
 all_goals simp[h]
variable{o:Oper}
theorem SW(ah:st.boxes=a6.boxes)(h:∀x∈o.op.operands.toList,st.aW x=a6.aW x):o' P st o ans=o' P a6 o ans:=by
 obtain⟨dst,op,type,pos,after,guard⟩:=o;simp only at h;cases dst with
 | none=>
  cases op with
  | store ty x y=>
   cases x with
   | tmp s=>
    simp_all[Op.operands,aG.aW,o']
   | _=>rfl
  | _=>rfl
 | some d=>
  unfold o';split
  ·rename_i f args ts aK aO;simp only at aK aO;subst aO;have pe:∀x∈args.toList,st.aW x=a6.aW x:=fun x ae=>h x (by grind[Op.operands,Call.operands])
   have:args.toList.mapM (fun x=>(st.aW x).hU st.boxes)=args.toList.mapM (fun x=>(a6.aW x).hU a6.boxes):=by
    rw[<-ah];generalize args.toList=l at pe;generalize st.boxes=bs;induction l with
    | nil=>rfl
    | cons x l dw=>grind
   rw[this]
  ·rename_i t n parts aK aO;simp only at aK aO;subst aO;have:(parts.toList.map fun x=>(x.1,st.aW x.2))=parts.toList.map fun x=>(x.1,a6.aW x.2):=Kn fun x ae=>h x.2 (by grind[Op.operands])
   grind[xH]
  ·rename_i x y t c3 aK aO;simp only at aK aO;subst aO;have ae:st.aW x=a6.aW x:=h x (by simp[Op.operands,Call.operands]);have a7:st.aW y=a6.aW y:=h y (by simp[Op.operands,Call.operands]);simp only[uX,ae,a7]
  ·rfl
  ·rfl
  ·grind[Op.operands]
  ·rename_i t x cp hi gV aK aO;simp only at aK aO;subst aO;have ae:st.aW x=a6.aW x:=h x (by simp[Op.operands]);have aM:∀o:Option Operand,(∀y,o=some y->st.aW y=a6.aW y)->jO st o=jO a6 o:=by
    intro o aM;cases o with
    | none=>rfl
    | some y=>simp_all[jO]
   rw[Ko ah h];simp only[AV,ae];rw[aM cp (fun y e=>h y (by simp[Op.operands,e])),aM hi (fun y e=>h y (by simp[Op.operands,e]))]
  ·rw[Ko ah h]
  ·grind
  rfl
theorem Hc{x:Operand}(h:∀t,IP x=some t->st.env.getD t .b5=a6.env.getD t .b5):st.aW x=a6.aW x:=by
 cases x with
 | tmp t=>simpa[aG.aW]using h t rfl
 | _=>rfl
def jW(ms:List Nat)(i j:Nat):Bool:=(ms.getD j 0).testBit i
def sF(ms:List Nat):List Edge->Nat
 | []=>0
 | e::r=>if Region.binds .any e then (2 ^ e.on ||| ms.getD e.on 0) ||| sF ms r else sF ms r
def ou:List Oper->List Nat->List Nat
 | [],acc=>acc
 | o::r,acc=>ou r (acc++[sF acc o.after.toList])
variable{ms:List Nat}{i:Nat}
theorem EL:∀{l:List Edge},(sF ms l).testBit i=true->∃e∈l,Region.binds .any e=true/\(i=e.on\/jW ms i e.on=true)
 | [],h=>by grind[sF]
 | e::r,h=>by
  simp only[sF]at h;split at h
  ·rename_i ah;rw[Nat.testBit_or,Nat.testBit_or,mD,mD,Nat.testBit_two_pow,cF]at h;rcases h with (h | h) | h
   ·grind
   ·exact⟨e,by simp,ah,.inr h⟩
   obtain⟨e',J,U⟩:=EL h;exact⟨e',by simp[J],U⟩
  obtain⟨e',J,U⟩:=EL h;exact⟨e',by simp[J],U⟩
def n4{α:Type}(f:Nat->α->Bool):Nat->List α->Bool
 | _,[]=>true
 | k,x::r=>f k x&&n4 f (k+1) r
theorem sG{α:Type}{f:Nat->α->Bool}:∀{l:List α} {k:Nat},n4 f k l=true->∀(i:Nat) (x:α),l[i]?=some x->f (k+i) x=true
 | [],_,_,i,x,h=>by simp at h
 | y::r,k,h,0,x,ae=>by
  simp_all[n4,b0]
 | y::r,k,h,i+1,x,ae=>by
  simp only[n4,b0]at h;have:=sG h.2 i x (by simpa using ae);rwa[show k+1+i=k+(i+1) by omega]at this
def oC(ms:List Nat)(os:List Oper):Bool:=
 n4 (fun j o=>ms.getD j 0==sF ms o.after.toList&&o.after.toList.all fun e=>!Region.binds .any e||decide (e.on<j)) 0 os
variable{ops:Array Oper}
theorem EM(h:oC ms ops.toList=true){j:Nat}(aM:ops[j]?=some o):(∀e∈o.after,Region.binds .any e=true->e.on<j)/\
  ∀i,jW ms i j=true->∃e∈o.after,Region.binds .any e=true/\(i=e.on\/jW ms i e.on=true):=by
 have:=sG h j o (by grind);simp only[cP,b0,fR,eP,mD,gD,cF]at this;grind[jW,EL]
def nI(ops:Array Oper)(bD:Array Bool):Prop:=
 ∀(j:Nat) (o:Oper),bD.getD j false=true->ops[j]?=some o->∀e∈o.after,Region.binds .any e=true->bD.getD e.on false=true
variable{bD:Array Bool}
theorem yQ{j:Nat}(h:bD.getD j false=true):j<bD.size:=by
 grind
theorem yR(h:oC ms ops.toList=true)(ai:nI ops bD)(ad:bD.size=ops.size):∀(j:Nat),bD.getD j false=true->jW ms i j=true->bD.getD i false=true:=by
 intro j;induction j using Nat.strongRecOn with
 | ind j dw=>
  intro aU aC;have bk:j<ops.size:=ad▸yQ aU;have aM:ops[j]?=some ops[j]:=i' bk;obtain⟨J,U⟩:=EM h aM;obtain⟨e,he,ah,lZ⟩:=U i aC;have tr:=ai j _ aU aM e he ah;grind
variable{k:Nat}
theorem wB(h:oC ms ops.toList=true)(ai:nI ops bD)(ad:bD.size=ops.size)(hi:i∈Region.ready .any ops bD)(aC:jW ms k i=true):bD.getD k false=true:=by
 rw[mem_ready]at hi;obtain⟨_,o,aM,he⟩:=hi;obtain⟨_,U⟩:=EM h aM;obtain⟨e,tq,ah,lZ⟩:=U k aC;rcases lZ with rfl | lZ
 ·grind
 grind[yR]
theorem nI.ready(ai:nI ops bD)(hi:i∈Region.ready .any ops bD):nI ops (bD.setIfInBounds i true):=by
 intro j o aU aM e he ah;rw[mem_ready]at hi;obtain⟨_,afT,afz,l2⟩:=hi;by_cases pt:i=j
 ·grind[getD_set_true]
 rw[getD_set_ne false pt]at aU;exact getD_set_true (ai j o aU aM e he ah)
theorem EN(h:oC ms ops.toList=true)(ad:bD.size=ops.size)(ar:Region.ready .any ops bD=[]):∀j,j<ops.size->bD.getD j false=true:=by
 intro j;induction j using Nat.strongRecOn with
 | ind j dw=>
  intro bk;have aM:ops[j]?=some ops[j]:=i' bk;obtain⟨J,_⟩:=EM h aM;cases ak:bD.getD j false with
  | true=>rfl
  | false=>
   have:j∈Region.ready .any ops bD:=by
    grind[mem_ready,Nat.lt_trans]
   grind
def wC(e:cK):List Nat:=e.dst.toList++e.use
def yS(ops:Array Oper)(o:Oper)(e:cK):List Nat:=wC e++reads ops o
def yx(ms:List Nat)(i k:Nat):Bool:=if k<i then jW ms k i else jW ms i k
def EO(ops:Array Oper)(ms:List Nat)(es:List cK):Bool:=
 n4 (fun i x=>n4 (fun k e=>k==i||yx ms i k||!((wC e).any fun t=>(yS ops x.1 x.2).contains t)) 0 es) 0 (ops.toList.zip es)
def tU(ms:List Nat)(es:List cK)(i cp:Nat)(s:Option Nat):Bool:=es.zipIdx.any fun y=>decide (cp<=y.2)&&jW ms y.2 i&&(match s with | some t=>y.1.use.contains t | none=>false)
variable{es:List cK}
theorem Kp{cp:Nat}{s:Option Nat}(h:tU ms es i cp s=true):∃m y t,es[m]?=some y/\cp<=m/\jW ms m i=true/\t∈y.use/\s=some t:=by
 unfold tU at h;grind
def EP(ms:List Nat)(es:List cK)(env0:List az)(bs:List (Nat×List aq)):Bool:=
 n4 (fun i e=>e.kY.isEmpty||
  (n4 (fun j x=>j==i||jW ms i j||!x.p.dK e.kY||(match x.dst with | some t=>e.use.contains t | none=>false)||x.dst==e.dst||tU ms es i (j+1) x.dst) 0 es&&
   n4 (fun t p=>!p.dK e.kY||e.use.contains t||tU ms es i 0 (some t)||e.dst==some t) 0 env0&&
   bs.all fun x=>!x.2.any (aq.dK e.kY))) 0 es
variable{e:cK}
theorem Kq{t:Nat}(h:e.e7 t≠none):t∈wC e:=by
 unfold cK.e7 at h;split at h
 ·grind[wC]
 simp_all[wC,absurd]
theorem Kr(h:EO ops ms es=true){AY AZ:cK}(aM:ops[i]?=some o)(hi:es[i]?=some AY)(aT:es[k]?=some AZ)(cl:k≠i){t:Nat}
  (bH:AZ.e7 t≠none) (aR:t∈yS ops o AY):yx ms i k=true:=by
 have J:=sG h i (o,AY) (by
  grind)
 have U:=sG J k AZ aT;simp only[cP,mD,fR,gD]at U;rcases U with (U | U) | U
 ·grind
 ·exact U
 simp_all[hP,Kq,List.contains_iff_mem,absurd]
variable{r:eR}
theorem Tag.nx(h:r.isEmpty=true)(t:Tag):t.dK r=false:=by
 cases t with
 | free=>rfl
 | own s=>rw[List.isEmpty_iff]at h;subst h;rfl
 | ro s=>rw[List.isEmpty_iff]at h;subst h;rfl
theorem aq.nx(h:r.isEmpty=true)(l:aq):l.dK r=false:=by
 cases l with
 | bE t i j k es m=>exact Tag.nx h (.own t)
 | ef t vs=>
  simp only[aq.dK,jU];refine⟨Tag.nx h (.own t),hP.2 fun c _=>?_⟩;cases c with
  | b5=>simp[dR.dK]
  | v x=>simp[dR.dK]
  | aa t k es=>simp[dR.dK,Tag.nx h]
 | _=>simp[aq.dK,Tag.nx h]
theorem bi.nx(h:r.isEmpty=true)(a:bi):a.dK r=false:=by
 cases a<;>simp[bi.dK,aq.nx h]
theorem az.nx(h:r.isEmpty=true)(p:az):p.dK r=false:=by
 cases p<;>simp[az.dK,bi.nx h]
variable{bs:List (Nat×List aq)}
theorem SX{env0:List az}(h:EP ms es env0 bs=true)(hi:es[i]?=some e):
  (∀(j:Nat) (x:cK),es[j]?=some x->j≠i->jW ms i j=true\/x.p.dK e.kY=false\/(∃t,x.dst=some t/\t∈e.use)\/x.dst=e.dst\/tU ms es i (j+1) x.dst=true)/\
  (∀(t:Nat) (p:az),env0[t]?=some p->((p.dK e.kY=false\/t∈e.use)\/tU ms es i 0 (some t)=true)\/e.dst=some t)/\∀x∈bs,x.2.any (aq.dK e.kY)=false:=by
 have J:=sG h i e hi;simp only[mD,cF]at J;rcases J with J | J
 ·grind[az.nx,hP,aq.nx]
 simp only[b0]at J;obtain⟨⟨J,U⟩,ax⟩:=J;refine⟨fun j x ae cl=>?_,fun t p hp=>?_,fun x ae=>?_⟩
 ·have:=sG J j x ae;grind
 ·have:=sG U t p hp;grind
 grind
theorem EQ{L:Nat->Bool}{t:Nat}:∀{es:List cK} {k:Nat} {acc:az},(fz L t k es acc=acc/\∀(m:Nat) (y:cK),es[m]?=some y->L (k+m)=true->y.e7 t=none)\/fz L t k es acc=.b5\/
  ∃j e,es[j]?=some e/\L (k+j)=true/\e.dst=some t/\fz L t k es acc=e.p/\∀(m:Nat) (y:cK),es[m]?=some y->j<m->L (k+m)=true->y.e7 t=none
 | [],_,_=>.inl ⟨rfl,fun m y h=>by simp at h⟩
 | e::es,k,acc=>by
  simp only[fz];rcases EQ (L:=L) (t:=t) (es:=es) (k:=k+1) (acc:=if L k then (e.e7 t).getD acc else acc) with⟨h,aR⟩ | h | ⟨j,e',J,U,ax,aJ,a1⟩
  ·have tail:∀(m:Nat) (y:cK),(e::es)[m+1]?=some y->L (k+(m+1))=true->y.e7 t=none:=fun m y a7 ak=>aR m y (by grind) (by grind)
   by_cases b9:L k=true
   ·rw[bb b9]at h ⊢;unfold cK.e7 at h ⊢;by_cases ay:e.dst=some t
    ·rw[bb ay]at h ⊢;refine .inr (.inr ⟨0,e,rfl,b9,ay,h,fun m y a7 hm ak=>?_⟩);cases m with
     | zero=>omega
     | succ m=>exact tail m y a7 ak
    rw[aZ ay]at h ⊢;by_cases hu:t∈e.use
    ·grind
    rw[aZ hu]at h ⊢;refine .inl ⟨h,fun m y a7 ak=>?_⟩;cases m with
    | zero=>
     grind
    | succ m=>exact tail m y a7 ak
   grind
  ·grind
  refine .inr (.inr ⟨j+1,e',by grind,by grind,ax,aJ,fun m y a7 hm ak=>?_⟩);grind
theorem Ks{t:Nat}:∀{es:List cK} {k i:Nat} {acc:az} {e:cK},es[i]?=some e->
  fz (fun j=>decide (j<k+i+1)) t k es acc=(e.e7 t).getD (fz (fun j=>decide (j<k+i)) t k es acc)
 | [],_,_,_,_,h=>by simp at h
 | b8::es,k,0,acc,e,h=>by
  simp at h;subst h;have ih:∀(es:List cK) (k m:Nat) (acc:az),m<=k->fz (fun j=>decide (j<m)) t k es acc=acc:=by
   intro es;induction es with
   | nil=>intro k m acc _;rfl
   | cons aK es dw=>
    intro k m acc hm;simp only[fz];rw[aZ (by grind)];exact dw (k+1) m acc (by omega)
  simp_all[fz,bb,aZ]
 | b8::es,k,i+1,acc,e,h=>by
  simp only[fz];rw[bb (by simp;omega),bb (by simp)];have:=Ks (t:=t) (es:=es) (k:=k+1) (i:=i) (acc:=(b8.e7 t).getD acc) (by simpa using h);rw[show k+1+i+1=k+(i+1)+1 by omega,show k+1+i=k+(i+1) by omega]at this;exact this
theorem yU{env0:List az}{bs:List (Nat×List aq)}(ay:∀(i:Nat) (e:cK),es[i]?=some e->e.dst≠none):∀(i:Nat),i<=es.length->
  (es.take i).foldl (fun env e=>e.apply env) env0=(dU env0 bs (fun j=>decide (j<i)) es).env
 | 0,_=>by
  apply List.ext_getElem?;intro t;rw[nH];have ih:∀(es:List cK) (k:Nat) (acc:az),fz (fun j=>decide (j<0)) t k es acc=acc:=by
   intro es;induction es with
   | nil=>intro k acc;rfl
   | cons aK es dw=>simp_all[fz,aZ]
  grind
 | i+1,hi=>by
  have bk:i<es.length:=by omega
  have he:es[i]?=some es[i]:=iM bk;have dw:=yU (env0:=env0) (bs:=bs) ay i (by omega);rw[uP,he,GO,List.foldl_append,dw];simp only[List.foldl_cons,List.foldl_nil];apply List.ext_getElem?;intro t;rw[cK.apply_get (ay i _ he),nH,nH];cases h:env0[t]? with
  | none=>rfl
  | some p=>
   have:=Ks (t:=t) (es:=es) (k:=0) (i:=i) (acc:=p) he;grind
theorem ER{a6:aG}{c0:aG}{dy:List bI}{cu:List Prop}{b:Bool}(h:oA ops st o []=some (b,c0,dy,cu))(ad:∀t∈reads ops o,st.env.getD t .b5=a6.env.getD t .b5):
  oA ops a6 o []=some (b,a6,[],[]):=by
 unfold oA at h ⊢;cases ag:o.guard with
 | none=>grind
 | some g=>
  obtain⟨j,want⟩:=g;rw[ag]at h;simp only at h ⊢;cases ay:(ops[j]?).bind (·.dst) with
  | none=>grind
  | some s=>
   grind[reads,EJ,aH,a']
variable{bN:List bI}{obs:List Prop}
theorem Kt(h:rc P st o ans=some (e,bN,obs)):
  ∃(v:gn) (d:Nat) (x y:Operand) (t:TypeId),oB st o=some v/\o.dst=some d/\o.op=.call ⟨.builtin .append,⟨[x,y]⟩,⟨[t,t]⟩⟩/\qd P t v.t v.i v.j v.k v.es v.esT (st.aW y) ans=some (e.p,bN,obs)/\
   e=⟨some d,e.p,[],[]⟩/\(st.aW x).leaf=some (.bE v.t v.i v.j v.k v.es .here)/\zY v.t st.boxes=some (v.kT,v.esT):=by
 obtain⟨dst,op,type,pos,after,guard⟩:=o;unfold rc at h;split at h
 ·rename_i v d fi y t c3 hi ay pv;simp only at ay pv;subst ay;subst pv;split at h
  ·rename_i vM;subst vM;rw[bF]at h;obtain⟨⟨bO,b6,cC⟩,J,h⟩:=h;simp only[a']at h;obtain⟨rfl,rfl,rfl⟩:=h;have kE:=hi;simp only[oB]at kE;grind
  cases h
 cases h
theorem Ku{st a6:aG}(ah:st.boxes=a6.boxes)(h:∀x∈o.op.operands.toList,st.aW x=a6.aW x):oB st o=oB a6 o:=by
 obtain⟨dst,op,type,pos,after,guard⟩:=o;simp only at h;unfold oB;simp only;split
 ·grind[Op.operands,Call.operands]
 rfl
theorem SY(ah:st.boxes=a6.boxes)(h:∀x∈o.op.operands.toList,st.aW x=a6.aW x):rc P st o ans=rc P a6 o ans:=by
 unfold rc;rw[Ku ah h];split
 ·grind[Op.operands,Call.operands]
 rfl
theorem SZ{v:gn}{q:az}(h:q.jb v.kk):∀a∈q.idx v.t v.j,a=v.i:=by
 have one:∀{a:bi},a.jb v.kk->∀x∈a.idx v.t v.j,x=v.i:=by
  intro a aC x ae;cases a with
  | one l=>exact aC.2 x ae
  | agg ls=>
   obtain⟨l,ak,ae⟩:=lL.1 ae;exact (aC l ak).2 x ae
 intro x ae;cases q with
 | aN a=>exact one h x ae
 | fD as=>
  obtain⟨a,aC,ae⟩:=lL.1 ae;exact one (h a aC) x ae
theorem S0{v:gn}{q:az}(h:q.jb v.kk):q.map (fA v.t v.i v.j v.k v.es v.kT v.esT)=q:=by
 have ls:∀{ls:List aq},(∀l∈ls,v.kk l)->ls.map (fA v.t v.i v.j v.k v.es v.kT v.esT)=ls:=by
  intro ls ak
  conv=>rhs;rw[<-oX ls]
  exact jA fun l hm=>(ak l hm).1
 have one:∀{a:bi},a.jb v.kk->a.map (fA v.t v.i v.j v.k v.es v.kT v.esT)=a:=by
  intro a aC;cases a with
  | one l=>simp only[bi.map];rw[aC.1]
  | agg l=>simp only[bi.map];rw[ls aC]
 cases q with
 | aN a=>simp only[az.map];rw[one h]
 | fD as=>
  simp only[az.map]
  congr 1
  conv=>rhs;rw[<-oX as]
  exact jA fun a hm=>one (h a hm)
theorem Fact.dst{env:List az}(h:Fact P ops bs env o e):e.dst≠none:=by
 rcases h with⟨_,_,_,_,d,ay,rfl⟩ | ⟨_,_,_,_,ans,b8,g,bN,obs,J,_,U⟩ | ⟨_,_,_,_,ans,bN,obs,J,_⟩
 rotate_left 2
 ·grind[Kt]
 ·simp[tT]
 obtain⟨_,d,aJ,_⟩:=IV J;grind
variable{w0:dC}{a:Act}{w:World}
theorem Rel.bool{env:List az}{d:Nat}{c:Bool}(h:Rel w0 ⟨env.set d (.one (.bP c)),bs⟩ a w):Rel w0 ⟨env.set d (.one (.v (.bool c))),bs⟩ a w:=by
 obtain⟨ω,τ,h⟩:=h;refine⟨ω,τ,h.defers,by have:=h.size;grind,h.below,h.owned,h.fixed,h.pinned,fun i p hp=>?_,h.boxes⟩;by_cases hi:d=i
 ·subst hi;rw[iL]at hp;split at hp
  ·split at hp
   ·rename_i ak;simp only[aH]at hp;subst hp;obtain⟨v,J,U⟩:=h.env d (.one (.bP c)) (by simp[ak]);exact⟨v,J,U⟩
   cases hp
  grind
 exact h.env i p (by grind)
section
variable {P : Program} {ops : Array Oper} {bs : List (Nat × List aq)} {env0 : List az} {es : List cK} {ms : List Nat}
def dY(bD:Array Bool)(j:Nat):Bool:=bD.getD j false
structure mI (P:Program) (ops:Array Oper) (bs:List (Nat×List aq)) (env0:List az) (es:List cK) (ms:List Nat):Prop where
 len:es.length<=ops.size
 facts:∀(i:Nat) (o:Oper),i<es.length->ops[i]?=some o->∃e,es[i]?=some e/\Fact P ops bs (dU env0 bs (fun j=>decide (j<i)) es).env o e
 masks:oC ms ops.toList=true
 bE:∀(i:Nat) (o:Oper) (v:gn),i<es.length->ops[i]?=some o->oB ⟨(dU env0 bs (fun j=>decide (j<i)) es).env,bs⟩ o=some v->
  (∀q∈env0,q.jb v.kk)/\(∀(j:Nat) (x:cK),es[j]?=some x->j≠i->x.p.jb v.kk)/\∀x∈bs,∀l∈x.2,v.kk l
 ord:EO ops ms es=true
 tok:EP ms es env0 bs=true
variable{bD:Array Bool}{i:Nat}{e:cK}
theorem mI.same(h:mI P ops bs env0 es ms)(ai:nI ops bD)(ad:bD.size=ops.size)(hi:i∈Region.ready .any ops bD){o:Oper}(aM:ops[i]?=some o)(he:es[i]?=some e)
  {t:Nat} (bH:t∈yS ops o e):(dU env0 bs (dY bD) es).env.getD t .b5=(dU env0 bs (fun j=>decide (j<i)) es).env.getD t .b5:=by
 rw[jz,jz,nH,nH];have fV:bD.getD i false=false:=by
  have bX:=(mem_ready.1 hi).1;grind
 cases afh:env0[t]? with
 | none=>rfl
 | some p=>
  simp only[oU,kh];refine wz fun j s' aU yf=>?_
  rw[cP];by_cases m':j=i
  ·grind[dY]
  have:=Kr h.ord aM he aU m' yf bH;unfold yx at this;split at this
  ·rename_i bk;have:=wB h.masks ai ad hi this;grind[dY]
  rename_i bk;cases BS:bD.getD j false with
  | false=>grind[dY]
  | true=>have:=yR h.masks ai ad j BS this;grind
theorem ES(bk:i<bD.size)(j:Nat):dY (bD.setIfInBounds i true) j=(if j=i then true else dY bD j):=by
 unfold dY;split
 ·simp_all
 simp_all[getD_set_ne,false,Ne.symm]
theorem mI.eF(h:mI P ops bs env0 es ms)(bk:i<bD.size)(he:es[i]?=some e){t:Nat}(bH:e.e7 t=none)(p:az):
  fz (dY (bD.setIfInBounds i true)) t 0 es p=fz (dY bD) t 0 es p:=by
 refine wz fun j s' aU yf=>?_
 rw[cP,ES bk,aZ];grind
theorem mI.last(h:mI P ops bs env0 es ms)(ai:nI ops bD)(ad:bD.size=ops.size)(hi:i∈Region.ready .any ops bD){o:Oper}(aM:ops[i]?=some o)(he:es[i]?=some e)
  {t:Nat} {q:az} (bH:e.e7 t=some q) (p:az):fz (dY (bD.setIfInBounds i true)) t 0 es p=q:=by
 have bk:i<bD.size:=ad▸(hB.1 aM).1;have fV:bD.getD i false=false:=by
  have bX:=(mem_ready.1 hi).1;grind
 refine IX he bH (by rw[cP,ES bk,bb rfl]) fun j s' aU P' yf=>?_
 rw[cP,ES bk,aZ (by omega)];have:=Kr h.ord aM he P' (by omega) yf (t:=t) (by
  grind[yS,gl,Kq])
 unfold yx at this;rw[aZ (by omega)]at this;cases BS:dY bD j with
 | false=>rfl
 | true=>have:=yR h.masks ai ad j BS this;grind
theorem mI.step(h:mI P ops bs env0 es ms)(ai:nI ops bD)(ad:bD.size=ops.size)(hi:i∈Region.ready .any ops bD)(l2:i<es.length){w0:dC}{w:World}{a:Act}
  (ar:Rel w0 (dU env0 bs (dY bD) es) a w) {Q:Exit->Act->World->Prop} {K:Act->World->Prop} (fw:∀b4 aD,Rel w0 (dU env0 bs (dY (bD.setIfInBounds i true)) es) b4 aD->K b4 aD):wpOp P ops Q i K a w:=by
 obtain⟨bX,o,aM,afg⟩:=mem_ready.1 hi;obtain⟨e,he,bn⟩:=h.facts i o l2 aM;have bk:i<bD.size:=ad▸(hB.1 aM).1;have QG:=fun t bH=>h.same ai ad hi aM he (t:=t) bH
 have vE:∀t∈reads ops o,(dU env0 bs (fun j=>decide (j<i)) es).env.getD t .b5=(dU env0 bs (dY bD) es).env.getD t .b5:=fun t bH=>(QG t (gQ _ bH)).symm
 unfold wpOp;rw[aM];simp only;rcases bn with⟨c0,dy,cu,hw,d,ay,rfl⟩ | ⟨c0,dy,cu,hw,ans,b8,g,bN,obs,dM,B0,BE⟩ | ⟨c0,dy,cu,hw,ans,bN,obs,B8,B0⟩
 rotate_left 2
 ·have vO:=ER hw (a6:=dU env0 bs (dY bD) es) vE;obtain⟨nr,_⟩:=sD vO trivial ar;rw[bb nr];left;have Hw:∀x∈o.op.operands.toList,(dU env0 bs (dY bD) es).aW x=aG.aW ⟨(dU env0 bs (fun j=>decide (j<i)) es).env,bs⟩ x:=fun x ae=>Hc fun t bH=>(vE t (by
   grind[reads,gl])).symm
  have Bx:rc P (dU env0 bs (dY bD) es) o ans=some (e,bN,obs):=by
   rw[<-B8];exact SY rfl Hw
  obtain⟨v,d,x,y,t,P5,ay,pv,tk,lZ,ae,lk⟩:=Kt Bx;have P6:oB ⟨(dU env0 bs (fun j=>decide (j<i)) es).env,bs⟩ o=some v:=by
   rw[<-P5];exact (Ku (st:=dU env0 bs (dY bD) es) (a6:=⟨(dU env0 bs (fun j=>decide (j<i)) es).env,bs⟩) rfl Hw).symm
  obtain⟨afi,BG,Hy⟩:=h.bE i o v l2 aM P6;have fV:bD.getD i false=false:=by
   grind
  have qu:∀q∈(dU env0 bs (dY bD) es).env,q.jb v.kk:=by
   intro q aw;simp only[dU]at aw;rw[eC]at aw;obtain⟨⟨lq,n⟩,hm,rfl⟩:=aw;have pw:lq∈env0:=by
    grind
   simp only;rcases EQ (L:=dY bD) (t:=n) (es:=es) (k:=0) (acc:=lq) with⟨J,_⟩ | J | ⟨j,s',J,U,_,aJ,_⟩
   ·grind
   ·rw[J];exact⟨rfl,fun a aC=>by grind[aq.idx]⟩
   rw[aJ];refine BG j s' J ?_;rintro rfl;rw[cP]at U;grind[dY]
  have Qk:(dU env0 bs (dY bD) es).map (fA v.t v.i v.j v.k v.es v.kT v.esT)=dU env0 bs (dY bD) es:=by
   have aK:(dU env0 bs (dY bD) es).env.map (az.map (fA v.t v.i v.j v.k v.es v.kT v.esT))=(dU env0 bs (dY bD) es).env:=by
    conv=>rhs;rw[<-oX (dU env0 bs (dY bD) es).env]
    grind[jA,S0]
   have aO:bs.map (fun x=>(x.1,x.2.map (fA v.t v.i v.j v.k v.es v.kT v.esT)))=bs:=by
    conv=>rhs;rw[<-oX bs]
    refine jA fun x ae=>?_
    obtain⟨jR,iu⟩:=x;simp only[id]
    congr 1
    conv=>rhs;rw[<-oX iu]
    exact jA fun l ak=>(Hy _ ae l ak).1
   unfold aG.map;rw[aK];show aG.mk _ (bs.map _)=_;rw[aO];rfl
  have l1:∀a∈(dU env0 bs (dY bD) es).idx v.t v.j,a=v.i:=by
   intro b4 aC;unfold aG.idx at aC;rcases hA.1 aC with aC | aC
   ·grind[SZ]
   obtain⟨z,aL,aC⟩:=lL.1 aC;obtain⟨l,ak,aC⟩:=lL.1 aC;exact (Hy z aL l ak).2 b4 aC
  obtain⟨ω,τ,fr⟩:=ar;obtain⟨z,aD,J,U⟩:=fr.qd (P:=P) (d:=d) (ty:=o.type) (kT:=v.kT) (x:=x) (y:=y) (az.cW ae (fr.aW x)) tk B0 (SV fr lk) l1;rw[Qk]at U;obtain⟨dst,op,type,pos,after,guard⟩:=o;simp only at ay pv;subst ay;subst pv;refine Calls.of (z:=z) (aD:=aD) ?_ (fw _ _ ?_)
  ·have:(execOp a.eval ⟨some d,.call ⟨.builtin .append,⟨[x,y]⟩,⟨[t,t]⟩⟩,type,pos,after,guard⟩)=(builtin .append ⟨[t,t]⟩ type (Array.map (fun | .const _=>true | _=>false) ⟨[x,y]⟩) (Array.map a.eval ⟨[x,y]⟩)):=by
    simp only[execOp,resolve];rfl
   rw[this];exact g' (by grind)
  refine U.weaken (by simp[tS]) rfl ?_;intro n p hp;right;rw[nH,bF]at hp;obtain⟨lq,pw,rfl⟩:=hp;rw[iL];have BD:e.dst=some d:=by rw[lZ]
  have rZ:e.use=[]:=by rw[lZ]
  by_cases qt:d=n
  ·subst qt;have:d<env0.length:=(eJ.1 pw).1;rw[bb rfl,bb (by grind[tS]),h.last ai ad hi aM he (q:=e.p) (by grind[cK.e7])]
  rw[aZ qt,nH,pw,oU,h.eF bk he (by grind[cK.e7])]
 ·have vO:=ER hw (a6:=dU env0 bs (dY bD) es) vE;obtain⟨nr,_⟩:=sD vO trivial ar;rw[aZ (by grind)];refine fw _ _ ((EE ar).weaken ?_ ?_ ?_)
  ·simp[tS,wy,ay]
  ·simp[dU,wy,ay]
  intro t p hp;rw[nH,bF]at hp;obtain⟨lq,pw,rfl⟩:=hp;right;simp only[wy,ay];rw[iL];by_cases qt:d=t
  ·subst qt;have:d<env0.length:=(eJ.1 pw).1;rw[bb rfl,bb (by grind[tS]),h.last ai ad hi aM he (q:=.one (.v undef)) (by simp[cK.e7,tT])]
  rw[aZ qt,nH,pw,oU,h.eF bk he (by grind[cK.e7,tT])]
 have vO:=ER hw (a6:=dU env0 bs (dY bD) es) vE;obtain⟨nr,_⟩:=sD vO trivial ar;rw[bb nr];left;have Bx:o' P (dU env0 bs (dY bD) es) o ans=some (b8,g,bN,obs):=by
  rw[<-dM];refine SW rfl fun x ae=>Hc fun t bH=>(vE t ?_).symm
  grind[reads,gl]
 obtain⟨ag,d,BB,pv⟩:=IV Bx;obtain⟨u,BE⟩:=BE;have tA:e.kY=b8.kY/\e.dst=b8.dst:=by
  grind
 obtain⟨tA,PO⟩:=tA;rw[<-tA]at ag;obtain⟨QM,QN,afF⟩:=SX h.tok he;have Pt:((dU env0 bs (dY bD) es).map (aq.b3 g fun _=>true)).boxes=bs:=by
  simp only[aG.map,dU]
  conv=>rhs;rw[<-oX bs]
  grind[jA,id,IN]
 refine SM pv B0 ar fun b4 aD dA=>fw _ _ ?_
 rw[Pt]at dA;have lj:Rel w0 ⟨((dU env0 bs (dY bD) es).map (aq.b3 g fun _=>true)).env.set d e.p,bs⟩ b4 aD:=by
  rcases BE with rfl | ⟨c,b,hp,gJ,rfl⟩
  ·exact dA
  rw[hp]at dA;subst gJ;exact dA.bool
 refine lj.weaken (by simp[tS,aG.map]) rfl ?_;intro t p hp;rw[nH,bF]at hp;obtain⟨lq,pw,rfl⟩:=hp;rw[iL];have BD:e.dst=some d:=PO.trans BB;by_cases qt:d=t
 ·subst qt;right;have:d<env0.length:=(eJ.1 pw).1;rw[bb rfl,bb (by grind[aG.map,tS]),h.last ai ad hi aM he (q:=e.p) (by grind[cK.e7])]
 rw[aZ qt];by_cases afG:t∈e.use
 ·left;exact h.last ai ad hi aM he (by grind[cK.e7]) lq
 have BO:=h.eF bk he (t:=t) (by grind[cK.e7]) lq;rw[BO];have afw:fz (dY bD) t 0 es lq=.b5\/(fz (dY bD) t 0 es lq).dK e.kY=false:=by
  rcases EQ (L:=dY bD) (t:=t) (es:=es) (k:=0) (acc:=lq) with⟨J,ih⟩ | J | ⟨j,s',J,U,ax,aJ,ih⟩
  ·right;rw[J];rcases QN t lq pw with (a1 | a1) | a1
   rotate_left 2
   ·grind
   ·grind
   obtain⟨m,y,c3,hm,_,aC,hu,bH⟩:=Kp a1;cases bH;have:=ih m y hm (by rw[cP];exact wB h.masks ai ad hi aC);unfold cK.e7 at this;grind
  ·exact .inl J
  right;rw[aJ];rw[cP]at U;have fV:bD.getD i false=false:=by
   grind
  have m':j≠i:=by grind
  rcases QM j s' J m' with a1 | a1 | a1 | a1 | a1
  rotate_left 3
  ·grind
  ·obtain⟨m,y,c3,hm,HJ,aC,hu,bH⟩:=Kp a1;rw[ax]at bH;cases bH;have:=ih m y hm (by omega) (by rw[cP];exact wB h.masks ai ad hi aC);unfold cK.e7 at this;grind
  ·have:=yR h.masks ai ad j U a1;grind
  ·exact a1
  grind
 grind[aG.map,nH,az.sP]
def D3(ops:Array Oper)(ms:List Nat)(k:Nat):Prop:=∀i,k<=i->i<ops.size->∀j,j<i->jW ms j i=true
theorem mI.any(h:mI P ops bs env0 es ms)(ah:D3 ops ms es.length){w0:dC}{Q:Exit->Act->World->Prop}
  (hh:∀(fL:Nat) {bD:Array Bool},nI ops bD->bD.size=ops.size->(∀j,j<es.length->bD.getD j false=true)->(∀j,es.length<=j->bD.getD j false=false)->bD.count false<=fL->
   ∀{a:Act} {w:World},Rel w0 (dU env0 bs (fun j=>decide (j<es.length)) es) a w->wpAny P .any ops Q fL bD a w):
  ∀(fL:Nat) {bD:Array Bool},nI ops bD->bD.size=ops.size->(∀j,es.length<=j->bD.getD j false=false)->bD.count false<=fL->
  ∀{a:Act} {w:World},Rel w0 (dU env0 bs (dY bD) es) a w->wpAny P .any ops Q fL bD a w:=by
 intro fL;induction fL with
 | zero=>
  intro bD ai ad fV pq a w ar;by_cases gI:∀j,j<es.length->bD.getD j false=true
  ·refine hh 0 ai ad gI fV pq ?_;have:dU env0 bs (dY bD) es=dU env0 bs (fun j=>decide (j<es.length)) es:=by
    unfold dU
    congr 1
    refine jA fun x _=>?_
    refine wz fun j e aU _=>?_
    have bk:j<es.length:=(eJ.1 aU).1;simp_all[cP,dY,decide_true]
   grind
  exfalso;apply gI;intro j aU;have bk:j<bD.size:=ad▸uR aU h.len;cases bn:bD[j] with
  | true=>simp[i' bk,bn]
  | false=>
   have:0<bD.count false:=by
    grind[Array.count_pos_iff,Array.getElem_mem]
   omega
 | succ fL dw=>
  intro bD ai ad fV pq a w ar;by_cases gI:∀j,j<es.length->bD.getD j false=true
  ·refine hh _ ai ad gI fV pq ?_;have:dU env0 bs (dY bD) es=dU env0 bs (fun j=>decide (j<es.length)) es:=by
    unfold dU
    congr 1
    refine jA fun x _=>?_
    refine wz fun j e aU _=>?_
    have bk:j<es.length:=(eJ.1 aU).1;simp_all[cP,dY,decide_true]
   grind
  refine⟨fun tx=>absurd (fun j aU=>EN h.masks ad tx j (uR aU h.len)) gI,fun i hi=>?_⟩;have l2:i<es.length:=by
   rcases mE i es.length with J | J
   ·exact J
   exfalso;obtain⟨_,o,aM,_⟩:=mem_ready.1 hi;have bk:i<ops.size:=(hB.1 aM).1;exact gI fun j aU=>wB h.masks ai ad hi (ah i J bk j (uR aU J))
  refine h.step ai ad hi l2 ar fun b4 aD dA=>dw (ai.ready hi) (by grind) (fun j aU=>?_) ?_ dA
  ·rw[getD_set_ne false (by omega)];grind
  obtain⟨J,o,aM,_⟩:=mem_ready.1 hi;have bk:i<bD.size:=ad▸(hB.1 aM).1;have bn:bD[i]=false:=by simpa[i' bk]using J
  grind
end
def tV(P:Program)(ops:Array Oper):List Oper->aG->List bI->Stepped
 | [],st,ans=>some (st,ans,[])
 | o::rest,st,ans=>
  match nB P ops o st ans with
  | some (c0,ea,eG)=>(tV P ops rest c0 ea).map fun r=>(r.1,r.2.1,eG++r.2.2)
  | none=>none
theorem Kv{Q:Exit->Act->World->Prop}(hi:ops[i]?=some o)(h:nB P ops o st ans=some (a6,bN,obs))(aM:cn obs)
  {a:Act} {w:World} (aI:Rel w0 st a w) {K:Act->World->Prop} (fw:∀b4 aD,Rel w0 a6 b4 aD->K b4 aD):wpOp P ops Q i K a w:=by
 unfold wpOp;rw[hi];simp only;unfold nB at h;split at h
 ·rename_i c0 ea eG hw;rw[bF]at h;obtain⟨⟨bO,b6,cC⟩,J,h⟩:=h;simp only[a']at h;obtain⟨rfl,rfl,rfl⟩:=h;obtain⟨cu,cc⟩:=aM.append;obtain⟨nr,fr⟩:=sD hw cu aI;rw[bb nr];grind[ED]
 ·rename_i c0 ea eG hw;simp only[aH,a']at h;obtain⟨rfl,rfl,rfl⟩:=h;obtain⟨nr,fr⟩:=sD hw aM aI;simp_all[aZ,EE]
 cases h
theorem S1(hm:oC ms ops.toList=true)(ah:D3 ops ms k){Q:Exit->Act->World->Prop}:∀(fL n:Nat) {bD:Array Bool},k<=n->n<=ops.size->
  nI ops bD->bD.size=ops.size->(∀j,j<n->bD.getD j false=true)->(∀j,n<=j->bD.getD j false=false)->bD.count false<=fL->
  ∀{st a6:aG} {ans bN:List bI} {obs:List Prop},tV P ops (ops.toList.drop n) st ans=some (a6,bN,obs)->cn obs->
  ∀{a:Act} {w:World},Rel w0 st a w->(∀b4 aD,Rel w0 a6 b4 aD->Q .normal b4 aD)->wpAny P .any ops Q fL bD a w:=by
 have fin:∀{bD:Array Bool} {n:Nat},n=ops.size->bD.size=ops.size->(∀j,j<n->bD.getD j false=true)->Region.ready .any ops bD=[]:=by
  intro bD n aR ad J;rw[List.eq_nil_iff_forall_not_mem];intro j aU;obtain⟨U,o,aM,_⟩:=mem_ready.1 aU;grind
 intro fL;induction fL with
 | zero=>
  intro n bD x5 aR ai ad J U pq st a6 ans bN obs h aM a w ar hh;have pu:n=ops.size:=by
   rcases mE n ops.size with bk | l0
   ·have iC:n<bD.size:=ad▸bk;have bn:bD[n]=false:=by simpa[i' iC]using U n (fF _)
    have:0<bD.count false:=by
     grind[Array.count_pos_iff,Array.getElem_mem]
    omega
   omega
  rw[List.drop_eq_nil_of_le (by simp[pu])]at h;simp only[tV,aH,a']at h;obtain⟨rfl,_,_⟩:=h;exact⟨fin pu ad J,hh _ _ ar⟩
 | succ fL dw=>
  intro n bD x5 aR ai ad J U pq st a6 ans bN obs h aM a w ar hh;rcases mE n ops.size with bk | l0
  ·have iC:n<bD.size:=ad▸bk;have ay:ops.toList.drop n=ops[n]::ops.toList.drop (n+1):=by
    grind[List.drop_eq_getElem_cons]
   rw[ay]at h;simp only[tV]at h;split at h
   ·rename_i c0 ea eG ax;rw[bF]at h;obtain⟨⟨bO,b6,cC⟩,aJ,h⟩:=h;simp only[a']at h;obtain⟨rfl,rfl,rfl⟩:=h;obtain⟨cu,cc⟩:=aM.append;refine⟨fun tx=>?_,fun i hi=>?_⟩
    ·exfalso;have:=EN hm ad tx n bk;grind
    have l3:i=n:=by
     obtain⟨a1,o,jM,_⟩:=mem_ready.1 hi;have tw:i<ops.size:=(hB.1 jM).1;have kE:i<bD.size:=ad▸tw;rcases Nat.lt_trichotomy i n with bt | bt | bt
     ·grind
     ·exact bt
     have:=wB hm ai ad hi (ah i (by omega) tw n bt);grind
    subst l3;refine Kv (i' bk) ax cu ar fun b4 aD dA=>dw (i+1) (by omega) (by omega) (ai.ready hi) (by grind) (fun j aU=>?_) (fun j aU=>?_) ?_ aJ cc dA hh
    ·by_cases m':j=i
     ·simp_all
     rw[getD_set_ne false (Ne.symm m')];grind
    ·rw[getD_set_ne false (by omega)];grind
    have bn:bD[i]=false:=by simpa[i' iC]using U i (fF _)
    grind
   cases h
  have pu:n=ops.size:=by omega
  rw[List.drop_eq_nil_of_le (by simp[pu])]at h;simp only[tV,aH,a']at h;obtain⟨rfl,_,_⟩:=h;have tx:=fin pu ad J;refine⟨fun _=>hh _ _ ar,fun i hi=>?_⟩;grind
def p3(ms:List Nat):Nat->Nat
 | 0=>0
 | i+1=>if ms.getD i 0==2 ^ i-1 then p3 ms i else i+1
theorem Kw(ms:List Nat):∀n,p3 ms n<=n
 | 0=>fF _
 | n+1=>by
  unfold p3;split
  ·exact k2 (Kw ms n) (Nat.le_succ n)
  grind
theorem Kx(ms:List Nat):∀n i,p3 ms n<=i->i<n->∀j,j<i->jW ms j i=true
 | 0,_,_,h,_,_=>absurd h (Nat.not_lt_zero _)
 | n+1,i,J,U,j,aU=>by
  unfold p3 at J;split at J
  ·rename_i he;by_cases l3:i=n
   ·subst l3;unfold jW;grind
   exact Kx ms n i J (by omega) j aU
  omega
theorem Sat.drew{ω:Own}{τ:Nat->Nat×Value}{l:aq}{y:Value}(h:Sat w ω τ l y):Sat w.drew ω τ l y:=by
 have bn:∀{R:List (Nat×Nat)->cx->Prop} {d:D} {y:Value},bA w ω R d y->bA w.drew ω R d y:=fun h=>h.frame fun _ _ _ aw=>⟨aw,rfl⟩
 cases l with
 | aa t k es=>exact⟨bn h.1,h.2⟩
 | ep t k es i j=>
  obtain⟨b,off,cap,J,U,ax,aJ⟩:=h;exact⟨b,off,cap,J,U,bn ax,aJ⟩
 | gZ ds off=>
  obtain⟨b,J,U⟩:=h;exact⟨b,J,bn U⟩
 | fd d=>exact bn h
 | dL t k es=>exact⟨bn h.1,h.2⟩
 | bE t i j k es m=>
  obtain⟨u,hu,J,hm⟩:=h;exact⟨u,hu,bn J,hm⟩
 | ef t vs=>
  obtain⟨b,ty,arr,J,U,ax,aR,a8⟩:=h;refine⟨b,ty,arr,J,U,ax,aR,fun j c ai=>?_⟩;obtain⟨u,fe,er⟩:=a8 j c ai;refine⟨u,fe,?_⟩;cases c with
  | b5=>exact trivial
  | v x=>exact er
  | aa t k es=>exact⟨bn er.1,er.2⟩
 | _=>exact h
theorem Rel.drew(h:Rel w0 st a w):Rel w0 st a w.drew:=by
 obtain⟨ω,τ,h⟩:=h;have hi:∀p:az,p.map _root_.id=p:=by
  intro p;cases p with
  | aN a=>cases a<;>simp[az.map,bi.map]
  | fD as=>
   simp only[az.map]
   congr 1
   have:bi.map _root_.id=_root_.id:=by funext a;cases a<;>simp[bi.map]
   simp_all
 refine⟨ω,τ,h.defers,h.size,h.below.next (e9.refl _ _).drew,h.owned,h.fixed,h.pinned,fun i p hp=>?_,fun id ls ak=>?_⟩
 ·obtain⟨v,J,U⟩:=h.env i p hp;have:=cd.map (iw:=Sat w.drew ω τ) (f:=_root_.id) (fun l v ad=>Sat.drew ad) U;grind
 obtain⟨b,arr,ty,J,U,ax,aJ⟩:=h.boxes id ls ak;have:=ia.map (iw:=Sat w.drew ω τ) (f:=_root_.id) (fun l v ad=>Sat.drew ad) aJ;rw[oX]at this;exact⟨b,arr,ty,J,U,ax,this⟩
def yV:Nat->List az->List Nat
 | _,[]=>[]
 | i,p::r=>match p.leaf with | some (.ef t _)=>if t=i then i::yV (i+1) r else yV (i+1) r | _=>yV (i+1) r
def uc(env:List az):List Oper->List Nat
 | []=>[]
 | o::r=>
  match o.dst,o.op with
  | none,.store _ (.tmp s) _=>
   match (env.getD s .b5).leaf with
   | some (.ptr d 0)=>if d=s/\s<cy/\!(uc env r).contains s then s::uc env r else uc env r
   | _=>uc env r
  | _,_=>uc env r
def S2(env0:List az)(bs:List (Nat×List aq))(es:List cK)(i:Nat):List aq:=
 env0.flatMap az.qB++(bs.flatMap (·.2)++(es.zipIdx.filter fun x=>x.2 != i).flatMap fun x=>x.1.p.qB)
def D4(P:Program)(ops:Array Oper)(st:aG)(ans:List bI):Stepped:=
 let gs:=ops.toList.filterMap (EJ ops)
 let ms:=ou ops.toList []
 let k:=p3 ms ops.size
 match wq (uc st.env (ops.toList.take k)) st with
 | some ew=>
  match qW P ops gs ew.boxes (ops.toList.take k) ew.env ans with
  | some (es,qk,ea,eG)=>
   if P.follows .mixedOrders&&oC ms ops.toList&&EO ops ms es&&EP ms es ew.env ew.boxes then
    match wu (yV 0 qk) ⟨qk,ew.boxes⟩,uE ew.boxes (S2 ew.env ew.boxes es) 0 (ops.toList.take k) ew.env es with
    | some lH,some tJ=>(tV P ops (ops.toList.drop k) lH ea).map fun r=>(r.1,r.2.1,eG++(tJ++r.2.2))
    | _,_=>none
   else none
  | none=>none
 | none=>none
theorem S3(h:D4 P ops st ans=some (a6,bN,obs))(aM:cn obs)(ar:Rel w0 st a w){id:Nat}
  {Q:Exit->Act->World->Prop} (hh:∀b4 aD,Rel w0 a6 b4 aD->Q .normal b4 aD):(Code.region id ops true).wp P Q a w:=by
 unfold D4 at h;simp only at h;split at h
 case h_2=>cases h
 rename_i ew H0;replace ar:=I9 ar H0;clear H0;revert ar h;generalize ew=st;intro h ar;split at h
 ·rename_i es qk ea eG ei;split at h
  ·rename_i ai;split at h
   rotate_left
   ·cases h
   rename_i lH tJ BW QI;rw[bF]at h;obtain⟨⟨bO,b6,cC⟩,QK,h⟩:=h;simp only[a']at h;obtain⟨rfl,rfl,rfl⟩:=h;obtain⟨BX,BY⟩:=aM.append;obtain⟨Qt,BY⟩:=BY.append;simp only[b0]at ai;obtain⟨⟨⟨hm,HK⟩,Qv⟩,h4⟩:=ai;have afr:=Kw (ou ops.toList []) ops.size;obtain⟨hlen,rS,PS⟩:=wA ei BX;have Qf:es.length=p3 (ou ops.toList []) ops.size:=by
    grind
   have afD:∀(i:Nat),i<es.length->(ops.toList.take (p3 (ou ops.toList []) ops.size))[i]?=ops[i]?:=by
    grind
   have ay:∀(i:Nat) (e:cK),es[i]?=some e->e.dst≠none:=by
    intro i e hi;have bk:i<(ops.toList.take (p3 (ou ops.toList []) ops.size)).length:=hlen▸(eJ.1 hi).1;obtain⟨e',J,U⟩:=PS i _ (iM bk);rw[hi]at J;cases J;exact U.dst
   have Hj:mI P ops st.boxes st.env es (ou ops.toList []):=by
    refine⟨by omega,fun i o l2 hi=>?_,HK,fun i o v l2 hi a8=>?_,Qv,h4⟩
    rotate_left
    ·have ye:=IY QI Qt i o (by grind) l2 v (by
      grind[yU])
     rw[cP]at ye;refine⟨fun q aw=>az.vW fun l ak=>ye l ?_,fun j x aU cl=>az.vW fun l ak=>ye l ?_,fun x ae l ak=>ye l ?_⟩
     ·exact gl _ (lL.2 ⟨q,aw,ak⟩)
     ·refine gQ _ (gQ _ (lL.2 ⟨(x,j),List.mem_filter.2 ⟨?_,by grind⟩,ak⟩));grind
     exact gQ _ (gl _ (lL.2 ⟨x,ae,ak⟩))
    grind[yU]
   have rJ:D3 ops (ou ops.toList []) es.length:=fun i J U j aU=>Kx _ _ i (by omega) U j aU
   refine wp_region_any hm (Hj.any rJ (w0:=w0) ?_ ops.size ?_ (by simp) ?_ ?_ ?_)
   ·intro fL bD vp ad h1 cr pq b4 aD dA;refine S1 HK rJ fL es.length (fF _) (by omega) vp ad h1 cr pq (st:=lH) (by rw[Qf];exact QK) BY (I' ?_ BW) hh;have:=yU (env0:=st.env) (bs:=st.boxes) ay es.length (fF _);rw[jS,<-rS]at this;rw[this];exact dA
   ·intro j o aU;have:=yQ aU;simp_all
   ·intro j _;by_cases aU:j<ops.size
    ·simp[aU]
    simp[aU]
   ·simp_all
   have:dU st.env st.boxes (dY (Array.replicate ops.size false)) es=st:=by
    have ih:∀(es:List cK) (t k:Nat) (acc:az),fz (dY (Array.replicate ops.size false)) t k es acc=acc:=by
     intro es;induction es with
     | nil=>intro t k acc;rfl
     | cons aK es dw=>
      intro t k acc;simp only[fz];rw[aZ,dw];unfold dY;intro ai;have:=yQ ai;simp_all
    obtain⟨env,bs⟩:=st;unfold dU;simp_all
   rw[this];exact ar.drew
  cases h
 cases h
end Go.Sx
namespace Go.Sx
open Go.RowKit
def gF(P:Program)(ops:Array Oper)(st a6:aG):Prop:=
 ∀(w0:dC) (a:Act) (w:World) (id:Nat) (Q:Exit->Act->World->Prop),Rel w0 st a w->(∀b4 aD,Rel w0 a6 b4 aD->Q .normal b4 aD)->(Code.region id ops true).wp P Q a w
def yW(o:Oper)(m:Nat):Bool:=o.after.toList.all fun e=>!Region.binds .any e||m.testBit e.on
def ny(m:Nat):Nat->List Oper->List (Nat×Oper)
 | _,[]=>[]
 | i,o::r=>if !m.testBit i&&yW o m then (i,o)::ny m (i+1) r else ny m (i+1) r
def runM(P:Program)(ops:Array Oper)(A:List (List bI))(m:Nat):Nat->List Oper->aG->aG
 | _,[],st=>st
 | i,o::r,st=>if m.testBit i then (match nB P ops o st (A.getD i []) with | some x=>runM P ops A m (i+1) r x.1 | none=>st) else runM P ops A m (i+1) r st
def uW(x:Nat)(l:List Nat):List Nat:=if l.any (Nat.beq x) then l else x::l
def vX:Nat->List (Nat×Oper)->List Nat->List Nat
 | _,[],l=>l
 | m,x::r,l=>uW (m ||| 2 ^ x.1) (vX m r l)
def v8(ops:List Oper):List Nat->List Nat
 | []=>[]
 | m::r=>vX m (ny m 0 ops) (v8 ops r)
abbrev s0:=Option (aG×List bI×List Prop)
def xM(P:Program)(ops:Array Oper)(A:List (List bI))(st:aG):List (Nat×Oper)->List s0
 | []=>[]
 | x::r=>nB P ops x.2 st (A.getD x.1 [])::xM P ops A st r
def xO(P:Program)(ops:Array Oper)(A:List (List bI))(O:List (List Prop))(ew:aG)(m:Nat):List (Nat×Oper)->List s0
 | []=>[]
 | x::r=>some (runM P ops A (m ||| 2 ^ x.1) 0 ops.toList ew,[],O.getD x.1 [])::xO P ops A O ew m r
def xN(P:Program)(ops:Array Oper)(A:List (List bI))(ew:aG):List Nat->List (List s0)
 | []=>[]
 | m::r=>xM P ops A (runM P ops A m 0 ops.toList ew) (ny m 0 ops.toList)::xN P ops A ew r
def xP(P:Program)(ops:Array Oper)(A:List (List bI))(O:List (List Prop))(ew:aG):List Nat->List (List s0)
 | []=>[]
 | m::r=>xO P ops A O ew m (ny m 0 ops.toList)::xP P ops A O ew r
def u2(P:Program)(ops:Array Oper)(A:List (List bI))(ew:aG):Nat->List Nat->List (List (List s0))
 | 0,_=>[]
 | n+1,l=>xN P ops A ew l::u2 P ops A ew n (v8 ops.toList l)
def u3(P:Program)(ops:Array Oper)(A:List (List bI))(O:List (List Prop))(ew:aG):Nat->List Nat->List (List (List s0))
 | 0,_=>[]
 | n+1,l=>xP P ops A O ew l::u3 P ops A O ew n (v8 ops.toList l)
variable{P:Program}{ops:Array Oper}{A:List (List bI)}{O:List (List Prop)}{ew st:aG}{m:Nat}
theorem Ky:∀{l:List (Nat×Oper)},xM P ops A st l=xO P ops A O ew m l->
  ∀x∈l,nB P ops x.2 st (A.getD x.1 [])=some (runM P ops A (m ||| 2 ^ x.1) 0 ops.toList ew,[],O.getD x.1 [])
 | [],_,x,ae=>by cases ae
 | y::r,h,x,ae=>by
  simp only[xM,xO,oW]at h;rcases dj.1 ae with rfl | ae
  ·exact h.1
  exact Ky h.2 x ae
theorem Kz:∀{l:List Nat},xN P ops A ew l=xP P ops A O ew l->
  ∀m∈l,∀x∈ny m 0 ops.toList,nB P ops x.2 (runM P ops A m 0 ops.toList ew) (A.getD x.1 [])=some (runM P ops A (m ||| 2 ^ x.1) 0 ops.toList ew,[],O.getD x.1 [])
 | [],_,m,hm=>by cases hm
 | m0::r,h,m,hm=>by
  simp only[xN,xP,oW]at h;rcases dj.1 hm with rfl | hm
  ·exact Ky h.1
  exact Kz h.2 m hm
theorem S4{x:Nat}{l:List Nat}:x∈uW x l:=by
 unfold uW;split
 ·rename_i h;obtain⟨y,a7,he⟩:=oY.1 h;rwa[Nat.eq_of_beq_eq_true he]
 exact fk
theorem KA{x y:Nat}{l:List Nat}(h:y∈l):y∈uW x l:=by
 unfold uW;split
 ·exact h
 exact eQ _ h
theorem KB{x:Nat×Oper}:∀{r:List (Nat×Oper)} {l:List Nat},x∈r->(m ||| 2 ^ x.1)∈vX m r l
 | [],_,h=>by cases h
 | y::r,l,h=>by
  simp only[vX];rcases dj.1 h with rfl | h
  ·exact S4
  exact KA (KB h)
theorem KC{k:Nat}:∀{r:List (Nat×Oper)} {l:List Nat},k∈l->k∈vX m r l
 | [],_,h=>h
 | _::_,_,h=>KA (KC h)
theorem KD{ops:List Oper}{x:Nat×Oper}:∀{l:List Nat},m∈l->x∈ny m 0 ops->(m ||| 2 ^ x.1)∈v8 ops l
 | [],h,_=>by cases h
 | k::r,h,ae=>by
  simp only[v8];rcases dj.1 h with rfl | h
  ·exact KB ae
  exact KC (KD h ae)
theorem KE{m:Nat}:∀{l:List Oper} {i j:Nat} {o:Oper},l[j]?=some o->m.testBit (i+j)=false->yW o m=true->(i+j,o)∈ny m i l
 | [],_,_,_,h,_,_=>by simp at h
 | y::r,i,0,o,h,J,U=>by
  simp only[jB,aH]at h;subst h;simp only[ny];rw[bb (by rw[lM]at J;simp[J,U])];exact fk
 | y::r,i,j+1,o,h,J,U=>by
  have:=KE (m:=m) (l:=r) (i:=i+1) (j:=j) (o:=o) (by simpa using h) (by rwa[show i+1+j=i+(j+1) by omega]) U;rw[show i+1+j=i+(j+1) by omega]at this;simp only[ny];split
  ·exact eQ _ this
  exact this
theorem D5{m k:Nat}:∀{l:List Oper} {i:Nat} {st:aG},(∀j,i<=j->j<i+l.length->m.testBit j=k.testBit j)->runM P ops A m i l st=runM P ops A k i l st
 | [],_,_,_=>rfl
 | o::r,i,st,h=>by
  simp only[runM];rw[h i (fF _) (by simp)];split
  ·split
   ·exact D5 fun j J U=>h j (by omega) (by simp only[du];omega)
   rfl
  exact D5 fun j J U=>h j (by omega) (by simp only[du];omega)
theorem KF:∀{O:List (List Prop)} (i:Nat),cn O.flatten->cn (O.getD i [])
 | [],i,_=>by simp[cn]
 | o::r,0,h=>by
  rw[List.flatten_cons]at h;exact (cn.append h).1
 | o::r,i+1,h=>by
  rw[List.flatten_cons]at h;exact KF i (cn.append h).2
theorem S5{ms:List Nat}{w0:dC}{Q:Exit->Act->World->Prop}(hm:oC ms ops.toList=true)(aM:cn O.flatten)
  (hh:∀b4 aD,Rel w0 (runM P ops A (2 ^ ops.size-1) 0 ops.toList ew) b4 aD->Q .normal b4 aD):∀(fL:Nat) {l:List Nat},u2 P ops A ew fL l=u3 P ops A O ew fL l->
  ∀{m:Nat} {bD:Array Bool},m∈l->bD.size=ops.size->(∀j,j<ops.size->bD.getD j false=m.testBit j)->bD.count false<=fL->
  ∀{a:Act} {w:World},Rel w0 (runM P ops A m 0 ops.toList ew) a w->wpAny P .any ops Q fL bD a w:=by
 have fin:∀{m:Nat} {bD:Array Bool},(∀j,j<ops.size->bD.getD j false=m.testBit j)->(∀j,j<ops.size->bD.getD j false=true)->
   ∀{a:Act} {w:World},Rel w0 (runM P ops A m 0 ops.toList ew) a w->Q .normal a w:=by
  intro m bD J U a w ar;refine hh a w ?_;rw[D5 (m:=2 ^ ops.size-1) (k:=m)]
  ·exact ar
  intro j _ aU;have vw:j<ops.size:=by simpa using aU
  rw[<-J j vw,U j vw,Nat.testBit_two_pow_sub_one,p9 vw]
 intro fL;induction fL with
 | zero=>
  intro l _ m bD _ ad J pq a w ar;have gI:∀j,j<ops.size->bD.getD j false=true:=by
   intro j aU;cases ak:bD.getD j false with
   | true=>rfl
   | false=>
    exfalso;have iC:j<bD.size:=ad▸aU;have bn:bD[j]=false:=by simpa[i' iC]using ak
    have:0<bD.count false:=by
     rw[Array.count_pos_iff];exact bn▸Array.getElem_mem iC
    omega
  refine⟨?_,fin J gI ar⟩;rw[List.eq_nil_iff_forall_not_mem];intro j aU;obtain⟨U,o,jM,_⟩:=mem_ready.1 aU;have bk:j<ops.size:=(hB.1 jM).1;have ax:=gI j bk;have iC:j<bD.size:=ad▸bk;simp[i' iC]at U ax;rw[U]at ax;cases ax
 | succ fL dw=>
  intro l he m bD oc ad J pq a w ar;simp only[u2,u3,oW]at he;refine⟨fun tx=>fin J (EN hm ad tx) ar,fun i hi=>?_⟩;obtain⟨a1,o,jM,BD⟩:=mem_ready.1 hi;have bk:i<ops.size:=(hB.1 jM).1;have iC:i<bD.size:=ad▸bk;have HA:bD.getD i false=false:=by
   simp[i' iC]at a1 ⊢;exact a1
  have Ql:yW o m=true:=by
   unfold yW;rw[eP];intro e tr;cases ah:Region.binds .any e with
   | false=>rfl
   | true=>
    have bt:=BD e (by simpa using tr) ah;have bQ:e.on<bD.size:=yQ bt;rw[J e.on (ad▸bQ)]at bt;simp[bt]
  have x7:(i,o)∈ny m 0 ops.toList:=by
   have:=KE (m:=m) (l:=ops.toList) (i:=0) (j:=i) (o:=o) (by simpa using jM) (by rw[cP,<-J i bk,HA]) Ql;rwa[cP]at this
  have nh:=Kz he.1 m oc _ x7;refine Kv jM nh (KF i aM) ar fun b4 aD dA=>dw he.2 (KD oc x7) (by simpa using ad) (fun j aU=>?_) ?_ dA
  ·rw[Nat.testBit_or,Nat.testBit_two_pow];by_cases m':j=i
   ·subst m';have aL:j<(bD.setIfInBounds j true).size:=by simpa using iC
    simp[i' aL]
   rw[getD_set_ne false (Ne.symm m'),J j aU,oZ (Ne.symm m'),Bool.or_false]
  have bn:bD[i]=false:=by simpa[i' iC]using HA
  have:(bD.setIfInBounds i true).count false=bD.count false-1:=by
   have e:bD.setIfInBounds i true=bD.set i true iC:=by unfold Array.setIfInBounds;rw[dif_pos iC]
   rw[e,Array.count_set];simp[bn]
  omega
theorem gF.of{a6:aG}(A:List (List bI))(O:List (List Prop))(ai:(P.follows .mixedOrders&&oC (ou ops.toList []) ops.toList)=true)
  (he:u2 P ops A st ops.size [0]=u3 P ops A O st ops.size [0]) (bn:runM P ops A (2 ^ ops.size-1) 0 ops.toList st=a6) (aM:cn O.flatten):gF P ops st a6:=by
 intro w0 a w id Q ar hh;simp only[b0]at ai;have aL:∀{l:List Oper} {i:Nat},runM P ops A 0 i l st=st:=by
  intro l;induction l with
  | nil=>intro i;rfl
  | cons o r dw=>intro i;simp only[runM,Nat.zero_testBit,oT,mF];exact dw
 refine wp_region_any ai.1 (S5 ai.2 aM (fun b4 aD h=>hh b4 aD (bn▸h)) ops.size he (m:=0) fk (by simp) (fun j aU=>by simp[aU]) (by simp[Array.count_replicate]) ?_);rw[aL];exact ar.drew
def D6(P:Program)(ops:Array Oper)(st:aG)(ans:List bI):Stepped:=
 match ans with
 | .nU a6::r=>some (a6,r,[gF P ops st a6])
 | _=>D4 P ops st ans
theorem S6{a6:aG}{ans bN:List bI}{obs:List Prop}(h:D6 P ops st ans=some (a6,bN,obs))(aM:cn obs){w0:dC}{a:Act}{w:World}(ar:Rel w0 st a w){id:Nat}
  {Q:Exit->Act->World->Prop} (hh:∀b4 aD,Rel w0 a6 b4 aD->Q .normal b4 aD):(Code.region id ops true).wp P Q a w:=by
 unfold D6 at h;split at h
 ·simp only[aH,a']at h;obtain⟨rfl,_,rfl⟩:=h;exact aM.1 w0 a w id Q ar hh
 exact S3 h aM ar hh
