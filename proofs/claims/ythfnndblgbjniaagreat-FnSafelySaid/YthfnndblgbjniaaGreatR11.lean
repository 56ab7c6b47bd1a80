import Derived.Test.YthfnndblgbjniaaGreatR6
set_option linter.unusedVariables false
set_option linter.unusedSimpArgs false
namespace Go.Sx
open Go.RowKit
def xD(t:Nat)(ms:io)(k:Nat)(cC:List (List D)):aG->aG
 | .J (.own s) ck es=>if s=t then .J (.own t) k cC else if (ms.at s).isSome then .cp else .J (.own s) ck es
 | .ep (.own s) ck es i j=>if s=t then .ep (.own t) k cC i j else if (ms.at s).isSome then .cp else .ep (.own s) ck es i j
 | .J (.ro s) ck es=>if s=t then .cp else if (ms.at s).isSome then .cp else .J (.ro s) ck es
 | .ep (.ro s) ck es i j=>if s=t then .cp else if (ms.at s).isSome then .cp else .ep (.ro s) ck es i j
 | .aR s a b dw dT m=>if s=t then .cp else if (ms.at s).isSome then .cp else .aR s a b dw dT m
 | .fP _ _=>.cp
 | l=>l
def nW(t:Nat)(ms:io):dv->dv
 | .tok s q=>if s=t then .tok s q else match ms.at s with | some p=>.tok t (p::q) | none=>.tok s q
 | o=>o
variable{t:Nat}{ms:io}
theorem Gt{o:dv}{id:Nat}:nW t ms o=.box id<->o=.box id:=by
 cases o with
 | bP=>simp[nW]
 | box i=>simp[nW]
 | tok s q=>
  grind[nW]
theorem aAy{o:dv}:nW t ms o=.bP<->o=.bP:=by
 cases o with
 | bP=>simp[nW]
 | box i=>simp[nW]
 | tok s q=>
  grind[nW]
variable{i j:Nat}{ds:List D}
theorem M3{es:List (List D)}{x:Nat}(hi:i<es.length):df (es.set i ds) x j=if x=i then ds[j]? else df es x j:=by
 unfold df;grind
def l0(ds:List D)(off:Nat)(xs:List D):List D:=ds.take off++(xs++ds.drop (off+xs.length))
theorem Uw{xs:List D}{off:Nat}(h:off+xs.length<=ds.length):(l0 ds off xs)[i]?=if off<=i/\i<off+xs.length then xs[i-off]? else ds[i]?:=by
 unfold l0;grind
theorem Ux{xs:List D}{off:Nat}(h:off+xs.length<=ds.length):(l0 ds off xs).length=ds.length:=by
 grind[l0]
def M4(t:Nat)(ms:io):Bool:=ms.all fun x=>x.1≠t&&(match ms.at x.1 with | some p=>p.1==x.2.1&&p.2==x.2.2 | none=>false)
theorem aAz(h:M4 t ms=true){s:Nat}{p:Nat×Nat}(hm:(s,p)∈ms):s≠t/\ms.at s=some p:=by
 have h1:=gn.1 h _ hm;grind
theorem M5(i:Nat):∀(xs:List aG) (j:Nat),ma i j xs=(ma 0 j xs).map fun x=>(x.1,(i,x.2.2))
 | [],_=>rfl
 | l::ls,j=>by
  simp only[ma];split
  ·simp only[mg,tD,true_and];exact M5 i ls (j+1)
  exact M5 i ls (j+1)
theorem Uy(i s:Nat):∀ms:io,io.at s (ms.map fun x=>(x.1,(i,x.2.2)))=(io.at s ms).map fun p=>(i,p.2)
 | []=>rfl
 | (a,p)::r=>by
  simp only[mg,io.at];split
  ·rfl
  simp_all[Uy]
theorem M6(i0:Nat):∀(xs:List aG) (j s:Nat) (p:Nat×Nat),(s,p)∈ma i0 j xs->p.1=i0
 | [],_,_,_,h=>by grind[ma]
 | l::ls,j,s,p,h=>by
  simp only[ma]at h;split at h
  ·rcases ev.1 h with h | h
   ·simp only[bL]at h;rw[h.2]
   exact M6 i0 ls (j+1) s p h
  exact M6 i0 ls (j+1) s p h
theorem Uz{xs:List aG}(h:M4 t (ma 0 j xs)=true){s:Nat}{p:Nat×Nat}(hm:(s,p)∈ma i j xs):s≠t/\(ma i j xs).at s=some p:=by
 have hp:=M6 i xs j s p hm;rw[M5]at hm ⊢;obtain⟨⟨u1,rR⟩,h1,U⟩:=kr.1 hm;simp only[bL]at U;obtain⟨rfl,U⟩:=U;obtain⟨aA,aJ⟩:=aAz h h1;simp_all[Uy]
def w7.flat:w7->Bool
 | .at_ _ _=>false
 | _=>true
def wl(t:Nat):Nat->List aG->Option (List D×List Nat)
 | _,[]=>some ([],[])
 | j,.aR s a b k es m::ls=>if s=t/\b=j/\m.flat=true then (wl t (j+1) ls).map fun r=>(.J k es::r.1,a::r.2) else none
 | j,l::ls=>
  match l.jz,wl t (j+1) ls with
  | some d,some r=>some (d::r.1,r.2)
  | _,_=>none
theorem UA:∀{xs:List aG} {j:Nat} {ys:List D} {is:List Nat},wl t j xs=some (ys,is)->ys.length=xs.length/\
  ∀(y:Nat) (d:D),ys[y]?=some d->∃l,xs[y]?=some l/\(l.jz=some d\/∃a k es m,l=.aR t a (j+y) k es m/\m.flat=true/\a∈is/\d=.J k es)
 | [],j,ys,is,h=>by
  grind[wl,aZ,bL]
 | l::ls,j,ys,is,h=>by
  have fin:∀d0 Jl Lv FX,ys=d0::Jl->is=FX->(∀a∈Lv,a∈FX)->wl t (j+1) ls=some (Jl,Lv)->(l.jz=some d0\/∃a k es m,l=.aR t a j k es m/\m.flat=true/\a∈FX/\d0=.J k es)->ys.length=(l::ls).length/\
    ∀(y:Nat) (d:D),ys[y]?=some d->∃x,(l::ls)[y]?=some x/\(x.jz=some d\/∃a k es m,x=.aR t a (j+y) k es m/\m.flat=true/\a∈is/\d=.J k es):=by
   rintro d0 Jl Lv FX rfl rfl kc aC bJ;obtain⟨h1,U⟩:=UA aC;refine⟨by simp[h1],fun y d aE=>?_⟩;cases y with
   | zero=>
    simp only[lY,aZ]at aE;subst aE;exact⟨l,rfl,bJ⟩
   | succ y=>
    obtain⟨x,ag,aA⟩:=U y d (by simpa using aE);refine⟨x,by simpa using ag,?_⟩;rcases aA with aA | ⟨a,k,es,m,aJ,a7,bw,b1⟩
    ·exact .inl aA
    exact .inr ⟨a,k,es,m,by rw[aJ,show j+1+y=j+(y+1) by omega],a7,kc a bw,b1⟩
  have plain:(match l.jz,wl t (j+1) ls with | some d,some r=>some (d::r.1,r.2) | _,_=>none)=some (ys,is)->ys.length=(l::ls).length/\
    ∀(y:Nat) (d:D),ys[y]?=some d->∃x,(l::ls)[y]?=some x/\(x.jz=some d\/∃a k es m,x=.aR t a (j+y) k es m/\m.flat=true/\a∈is/\d=.J k es):=by
   grind
  cases l with
  | aR s a b k es m=>
   simp only[wl]at h;split at h
   ·rename_i ai;obtain⟨rfl,rfl,hm⟩:=ai;rw[ca]at h;grind
   cases h
  | _=>exact plain h
theorem Gu:∀{l:List Nat},cO (l.map fun a=>a=i)->∀a∈l,a=i
 | [],_,a,h=>by cases h
 | x::l,a8,a,h=>by
  rcases ev.1 h with rfl | h
  ·exact a8.1
  exact Gu a8.2 a h
def M7(P:Program)(st:aD)(ty:TypeId)(t k:Nat)(es:List (List D))(i j:Nat)(q:aI)(ans:List cf):Stepped:=
 match q.leaves,P.info? ty,ans with
 | some xs,some inf,.el ds::r=>
  match wl t j xs with
  | some (ys,is)=>
   if xs.length=inf.size/\ds.length=k/\j+ys.length<=k/\M4 t (ma 0 j xs)=true then
    some (st.map (xD t (ma i j xs) k (es.set i (l0 ds j ys))),r,(es[i]?=some ds)::is.map fun a=>a=i)
   else none
  | none=>none
 | _,_,_=>none
theorem cM.aDY{P:Program}{w0:eT}{st bG:aD}{a:Act}{w:World}{ω:Own}{τ:Nat->Nat×Value}{ty:TypeId}{k:Nat}{es:List (List D)}{q:aI}{v y:Value}{ans cv:List cf}{obs:List Prop}
  (a6:cM w0 st a w ω τ) (hp:Sat w ω τ (.ep (.own t) k es i j) y) (aH:cW (Sat w ω τ) q v) (h:M7 P st ty t k es i j q ans=some (bG,cv,obs)) (a8:cO obs):
  ∃aN,(Instr.storeAt ty y v).run P w=.ok () aN/\Rel w0 bG a aN:=by
 unfold M7 at h;split at h
 ·rename_i xs inf ds r e1 e2;split at h
  ·rename_i ys is ch;split at h
   ·rename_i ai;obtain⟨mY,mr,l4,zk⟩:=ai;simp only[aZ,bL]at h;obtain⟨rfl,_,rfl⟩:=h;have fj:es[i]?=some ds:=a8.1;obtain⟨ao,oG⟩:=aI.zG e1 aH;obtain⟨S5,Lr⟩:=UA ch;have ad5:=Gu a8.2;obtain⟨b,off,cap,rfl,kv,aC,bO⟩:=hp;simp only[Tag.et]at bO;cases aC with
    | nil=>simp at kv
    | row R k es b off cap arr jB cY us aw ef ff dO ht hu aE=>
     have l2:ω b=.tok t []:=ef;obtain⟨xn,vg,wU,iw⟩:=a6.owned b (by grind);rw[aw]at iw;simp only[aZ,Obj.cells.injEq]at iw;obtain⟨rfl,rfl,rfl⟩:=iw;have xj:b<w.heap.size:=(jj.1 aw).1;have hmul:(i+1)*k<=cap*k:=hI _ (by omega);rw[hK]at hmul;have qw:v.cells.size=xs.length:=ao.1;have eo:off+i*k+j+v.cells.toList.length<=arr.size:=by simp;omega
     have fr:=run_storeCells_at P b (off+i*k+j) jB v.cells.toList 0 arr w aw (by grind) oG;simp only[o6]at fr;generalize qn:(arr.toList.take (off+i*k+j)++v.cells.toList++arr.toList.drop (off+i*k+j+v.cells.toList.length)).toArray=cm at fr;have hT:∀x:Nat,cm[x]?=if off+i*k+j<=x/\x<off+i*k+j+xs.length then v.cells[x-(off+i*k+j)]? else arr[x]?:=by
      intro x;rw[<-qn,p6,C' (by grind)];simp[qw]
     have zA:cm.size=arr.size:=by rw[<-qn];simp;grind
     have l6:=setRow_heap w b arr cm jB (0,0) aw
     let ms:=ma i j xs
     let bh:Own:=fun c=>nW t ms (ω c)
     have aFX:ms.at t=none:=by
      cases e:ms.at t with
      | none=>rfl
      | some p=>
       have sK:∀(ms:io) (p:Nat×Nat),ms.at t=some p->(t,p)∈ms:=by
        intro ms;induction ms with
        | nil=>intro p h;cases h
        | cons x ms eA=>
         intro p h;obtain⟨s,rR⟩:=x;simp only[io.at]at h;split at h
         ·grind
         grind
       grind[absurd,Uz]
     have di:∀c q,c<w.heap.size->ω c=.tok t q->bh c=.tok t q:=fun c q _ h=>by grind[nW]
     have oF:∀c p q,c<w.heap.size->ω c=.tok t (p::q)->bh c=.tok t (p::q)/\(w.setRow b cm).heap[c]?=w.heap[c]?:=by
      grind[setRow_other]
     have jI:∀(g:Tag) c q,g≠.own t->g≠.ro t->(∀s,g=.own s\/g=.ro s->ms.at s=none)->g.R q (ω c)->g.R q (bh c)/\(w.setRow b cm).heap[c]?=w.heap[c]?:=by
      intro g c q h1 U aA fk;have iT:c≠b:=fun e=>by
       rw[e,l2]at fk;cases g with
       | free=>cases fk
       | own s=>grind[Tag.R,dv.tok.injEq]
       | ro s=>
        rcases fk with h | ⟨ee,h⟩
        ·cases h
        grind
      refine⟨?_,setRow_other w b c cm iT⟩;cases g with
      | free=>grind[Tag.R,nW]
      | own s=>
       simp only[Tag.R]at fk ⊢;simp only[bh,fk,nW];split
       ·rfl
       grind
      | ro s=>
       simp only[Tag.R]at fk ⊢;rcases fk with h | ⟨ee,h⟩
       ·grind[nW]
       right;refine⟨ee,?_⟩;simp only[bh,h,nW];split
       ·rfl
       grind
     have aes:b3 (w.setRow b cm) bh (Tag.own t).R (.J k (es.set i (l0 ds j ys))) (.slice (some ⟨b,off,none⟩) es.length cap):=by
      have hlen:(es.set i (l0 ds j ys)).length=es.length:=ho;have FD:ds.length=k:=mr;have fA:∀x y d,df (es.set i (l0 ds j ys)) x y=some d->∃u,cm[off+x*k+y]?=some u/\b3 (w.setRow b cm) bh (fun q=>(Tag.own t).R ((x,y)::q)) d u:=by
       intro x y d eu;rw[M3 kv]at eu;by_cases ag:x=i
       ·subst ag;rw[bq rfl,Uw (by omega)]at eu;split at eu
        ·rename_i bu;obtain⟨l,jm,c4⟩:=Lr _ _ eu;obtain⟨u,hd,fG⟩:=ao.2 _ _ jm;rcases c4 with c4 | ⟨a,bm,bZ,m,rfl,hm,adl,rfl⟩
         case inr=>
          have J':=ad5 a adl;subst J';obtain⟨fo,sO,rD,_⟩:=fG;have bE:u=fo:=by
           cases m with
           | at_ x y=>cases hm
           | here=>exact sO
           | mS=>exact sO
          subst bE;refine⟨u,?_,rD.frame fun c q ai fk=>?_⟩
          ·rw[hT,bq (by omega),<-hd]
           congr 1;omega
          rw[show j+(y-j)=y by omega]at fk;exact oF c _ _ ai fk
         refine⟨u,?_,?_⟩
         ·rw[hT,bq (by omega),<-hd]
          congr 1;omega
         have sK:∀s,l.tok=some s->ms.at s=some (x,y)/\s≠t:=by
          intro s dr;have:=M0 x xs j (y-j) l s jm dr;rw[show j+(y-j)=y by omega]at this;grind[Uz]
         cases l with
         | cp=>cases c4
         | v z=>
          simp only[aG.jz]at c4;split at c4
          ·simp only[aZ]at c4;subst c4;have:u=z:=fG;subst this;exact .v _ _ ‹_›
          cases c4
         | bg c=>
          simp only[aG.jz,aZ]at c4;subst c4;have:u=.bool c:=fG;subst this;exact .v _ _ rfl
         | ptr=>cases c4
         | ep=>cases c4
         | hY=>cases c4
         | fd=>cases c4
         | dC=>cases c4
         | hq=>cases c4
         | aR=>cases c4
         | fP=>cases c4
         | J g bm bZ=>
          cases g with
          | free=>cases c4
          | ro s=>cases c4
          | own s=>
           simp only[aG.jz,aZ]at c4;subst c4;obtain⟨h1,U⟩:=sK s rfl;refine fG.1.frame fun c q ai fk=>?_
           simp only[Tag.R]at fk ⊢;refine⟨?_,setRow_other w b c cm fun e=>?_⟩
           ·simp only[bh,fk,nW];grind
           grind
        rename_i bu;have rp:df es x y=some d:=by grind[df]
        refine⟨us x y,?_,(aE x y d rp).frame fun c q ai fk=>oF c _ _ ai fk⟩;rw[hT,bD (by omega),hu x y d rp]
       rw[bD ag]at eu;obtain⟨gz,afe⟩:=uL ht eu;refine⟨us x y,?_,(aE x y d eu).frame fun c q ai fk=>oF c _ _ ai fk⟩;rw[hT,bD ?_,hu x y d eu];rcases Nat.lt_or_gt_of_ne ag with h | h
       ·have:(x+1)*k<=i*k:=hI _ h;grind
       have:(i+1)*k<=x*k:=hI _ h;grind
      have rF:∀e∈es.set i (l0 ds j ys),e.length=k:=by
       grind[iD,Ux]
      have:=b3.row (w:=w.setRow b cm) (ω:=bh) (Tag.own t).R k (es.set i (l0 ds j ys)) b off cap cm jB (0,0) (fun x y=>cm.getD (off+x*k+y) undef) l6 (di b [] xj l2) (by omega) (by omega) rF
       (fun x y d eQ=>by obtain⟨u,h1,_⟩:=fA x y d eQ;rw[h1];simp[fc,h1])
       (fun x y d eQ=>by obtain⟨u,h1,U⟩:=fA x y d eQ;have:cm.getD (off+x*k+y) undef=u:=(by simp[fc,h1]);grind)
      grind
     have e8:∀l v,Sat w ω τ l v->Sat (w.setRow b cm) bh τ (xD t ms k (es.set i (l0 ds j ys)) l) v:=by
      intro l v dr;have aeo:∀s,¬(ms.at s).isSome=true->ms.at s=none:=fun s h=>by
       cases e:ms.at s with
       | none=>rfl
       | some p=>simp[e]at h
      cases l with
      | cp=>exact trivial
      | v x=>exact dr
      | bg c=>exact dr
      | ptr id o=>
       obtain⟨c,ai,e⟩:=dr;exact⟨c,Gt.2 ai,e⟩
      | aR s a fT dw dT m=>
       simp only[xD];split
       ·exact trivial
       rename_i h1;split
       ·exact trivial
       rename_i U;obtain⟨u,hu,oH,hm⟩:=dr;have kW:∀c q,ω c=.tok s q->bh c=.tok s q/\(w.setRow b cm).heap[c]?=w.heap[c]?:=fun c q fk=>
        jI (.own s) c q (by grind) (by simp) (fun u1 h=>by
         grind) fk
       refine⟨u,hu,oH.frame fun c q _ fk=>kW c _ fk,fun pv=>?_⟩;obtain⟨kT,c,rP,afu,q9,kt,kJ,JR,dN,a2,a3,a4⟩:=hm pv;obtain⟨e1,e2⟩:=kW c [] a2;exact⟨kT,c,rP,afu,q9,kt,kJ,JR,dN,e1,e2.trans a3,a4⟩
      | fP=>exact trivial
      | hq f ids=>
       obtain⟨bs,e,aW,hi⟩:=dr;refine⟨bs,e,aW,fun i id hB=>?_⟩;obtain⟨b,h1,U⟩:=hi i id hB;exact⟨b,h1,Gt.2 U⟩
      | hY tP o=>
       obtain⟨c,e,eW⟩:=dr;exact⟨c,e,eW.frame fun c q _ fk=>jI .free c q (by simp) (by simp) (fun s h=>by grind) fk⟩
      | fd d=>
       exact b3.frame dr fun c q _ fk=>jI .free c q (by simp) (by simp) (fun s h=>by grind) fk
      | dC t2 bm bZ=>exact⟨dr.1.frame fun c q _ fk=>jI .free c q (by simp) (by simp) (fun s h=>by grind) fk,dr.2⟩
      | J g bm bZ=>
       cases g with
       | free=>exact⟨dr.1.frame fun c q _ fk=>jI .free c q (by simp) (by simp) (fun s h=>by grind) fk,aa⟩
       | own s=>
        simp only[xD];split
        ·rename_i KQ;subst KQ;have U:=dr.2;simp only[Tag.et]at U;rw[bO]at U;simp only[bL]at U;rw[<-U.2];exact⟨aes,bO⟩
        split
        ·exact trivial
        rename_i h1 U;exact⟨dr.1.frame fun c q _ fk=>jI (.own s) c q (by grind) (by simp) (fun u1 h=>by
         grind) fk,dr.2⟩
       | ro s=>
        simp only[xD];split
        ·exact trivial
        split
        ·exact trivial
        rename_i h1 U;exact⟨dr.1.frame fun c q _ fk=>jI (.ro s) c q (by simp) (by grind) (fun u1 h=>by
         grind) fk,aa⟩
      | ep g bm bZ i2 pC=>
       obtain⟨fT,rP,q9,e,oC,oH,pv⟩:=dr;cases g with
       | free=>exact⟨fT,rP,q9,e,oC,oH.frame fun c q _ fk=>jI .free c q (by simp) (by simp) (fun s h=>by grind) fk,aa⟩
       | own s=>
        simp only[xD];split
        ·rename_i KQ;subst KQ;simp only[Tag.et]at pv;rw[bO]at pv;simp only[bL,Value.slice.injEq,aZ,Addr.mk.injEq]at pv;obtain⟨rfl,⟨rfl,rfl,_⟩,c4,rfl⟩:=pv;refine⟨b,off,cap,e,by simp;omega,?_,?_⟩
         ·grind
         rw[ho];exact bO
        split
        ·exact trivial
        rename_i h1 U;exact⟨fT,rP,q9,e,oC,oH.frame fun c q _ fk=>jI (.own s) c q (by grind) (by simp) (fun u1 h=>by
         grind) fk,pv⟩
       | ro s=>
        simp only[xD];split
        ·exact trivial
        split
        ·exact trivial
        rename_i h1 U;exact⟨fT,rP,q9,e,oC,oH.frame fun c q _ fk=>jI (.ro s) c q (by simp) (by grind) (fun u1 h=>by
         grind) fk,aa⟩
     refine⟨w.setRow b cm,?_,bh,τ,a6.dc _ e8 ?_ ?_ ?_ ?_⟩
     ·simp only[Instr.storeAt,Instr.sureAddr,Sem.run_bind,Sem.run_pure,Result.andThen_ok,storeVar,sizeOf,typeInfo,run_program,e2];grind
     ·exact a6.below.setRow xn cm
     ·intro c iT;have:ω c≠.bP:=fun e=>iT (aAy.2 e)
      obtain⟨aA,kt,kJ,aJ⟩:=a6.owned c this;grind[setRow_other]
     ·intro id c iT;exact⟨Gt.2 iT,setRow_other w b c cm fun e=>by grind⟩
     intro id c iT;exact Gt.1 iT
   cases h
  cases h
 cases h
end Go.Sx
namespace Go.Sx
open Go.RowKit
def mJ(w:World)(d:D)(y:Value):Prop:=b3 w (fun _=>.bP) Tag.free.R d y
def vb(w:World):cR->Value->Prop
 | .one d,y=>mJ w d y
 | .agg ds,y=>∃vs:Array Value,y=.agg vs/\vs.size=ds.length/\∀(i:Nat) (d:D),ds[i]?=some d->∃u,vs[i]?=some u/\mJ w d u
def Gv(w:World)(ha:List cR)(vs:Array Value):Prop:=vs.size=ha.length/\∀(i:Nat) (cw:cR),ha[i]?=some cw->∃v,vs[i]?=some v/\vb w cw v
def ng(w:World)(ω:Own)(r:Nat):cR->Value->Prop
 | .one d,y=>b3 w ω (Tag.own (100*r)).R d y
 | .agg ds,y=>∃vs:Array Value,y=.agg vs/\vs.size=ds.length/\∀(j:Nat) (d:D),ds[j]?=some d->∃u,vs[j]?=some u/\b3 w ω (Tag.own (100*r+j)).R d u
def nX(w:World)(ω:Own)(rs:List cR)(v:Value):Prop:=
 match rs with
 | [cw]=>ng w ω 0 cw v
 | rs=>∃vs:Array Value,v=.tuple vs/\vs.size=rs.length/\∀(r:Nat) (cw:cR),rs[r]?=some cw->∃y,vs[r]?=some y/\ng w ω r cw y
def y2(w0 w:World)(rs:List cR)(v:Value):Prop:=
 ∃ω:Own,(∀b,b<w0.heap.size->ω b=.bP)/\(∀b,ω b≠.bP->(∃t q,ω b=.tok t q)/\∃arr ty,w.heap[b]?=some (.cells arr ty (0,0)))/\nX w ω rs v
def iF(P:Program)(f:FuncId)(args rs:List cR):Prop:=
 ∀(w:World) (vs:Array Value),qa w->Gv w args vs->Calls P f vs w fun e aN=>∃v,e=.returned v/\g' w.heap.size w aN/\y2 w aN rs v
def aG.hb:aG->Option D
 | .v x=>if x.oneCell' then some (.v x) else none
 | .bg c=>some (.v (.bool c))
 | .J _ k es=>some (.J k es)
 | .hY ds off=>if off=0 then some (.ptr ds) else none
 | .fd d=>some d
 | .dC _ k es=>some (.J k es)
 | .aR _ _ _ k es .here=>some (.J k es)
 | .aR _ _ _ k es .mS=>some (.J k es)
 | _=>none
abbrev mP:=List (Nat×List aG)
def y7(bs:mP)(id:Nat):Option D:=(dK id bs).bind fun ls=>(ls.mapM aG.hb).map .ptr
def aG.kO(bs:mP):aG->Option D
 | .ptr id off=>if off=0 then y7 bs id else none
 | .hq g ids=>(ids.mapM (y7 bs)).map (.cl g)
 | l=>l.hb
def bp.kO(bs:mP):bp->Option cR
 | .one l=>(l.kO bs).map .one
 | .agg ls=>(ls.mapM (aG.kO bs)).map .agg
def aI.kO(bs:mP):aI->Option cR
 | .aF a=>a.kO bs
 | _=>none
variable{w:World}{ω:Own}{d:D}{y:Value}
theorem b3.free{R:List (Nat×Nat)->dv->Prop}(h:b3 w ω R d y):mJ w d y:=
 h.frame fun _ _ _ _=>⟨rfl,rfl⟩
variable{τ:Nat->Nat×Value}
theorem aG.RF{l:aG}(h:l.hb=some d)(ao:Sat w ω τ l y):mJ w d y:=by
 cases l with
 | cp=>cases h
 | v x=>
  simp only[aG.hb]at h;split at h
  ·simp only[aZ]at h;subst h;have:y=x:=ao;subst this;exact .v _ _ ‹_›
  cases h
 | bg c=>
  simp only[aG.hb,aZ]at h;subst h;have:y=.bool c:=ao;subst this;exact .v _ _ rfl
 | J t k es=>simp only[aG.hb,aZ]at h;subst h;exact ao.1.free
 | ptr=>cases h
 | ep=>cases h
 | hq=>cases h
 | fP=>cases h
 | hY ds off=>
  simp only[aG.hb]at h;split at h
  ·rename_i a8;subst a8;simp only[aZ]at h;subst h;obtain⟨b,rfl,aC⟩:=ao;exact aC.free
  cases h
 | fd dQ=>simp only[aG.hb,aZ]at h;subst h;exact b3.free ao
 | dC t k es=>simp only[aG.hb,aZ]at h;subst h;exact b3.free ao.1
 | aR t i j k es m=>
  obtain⟨u,hu,aC,_⟩:=ao;cases m with
  | at_ x z=>cases h
  | here=>simp only[aG.hb,aZ]at h;subst h;have:y=u:=hu;subst this;exact aC.free
  | mS=>simp only[aG.hb,aZ]at h;subst h;have:y=u:=hu;subst this;exact aC.free
def xE(w:World)(ω:Own)(τ:Nat->Nat×Value)(bs:mP):Prop:=∀id ls,dK id bs=some ls->vd w ω τ id ls
variable{bs:mP}
theorem UB(aw:xE w ω τ bs){id b:Nat}(h:y7 bs id=some d)(a8:ω b=.box id):mJ w d (ptrTo b):=by
 unfold y7 at h;cases e:dK id bs with
 | none=>simp[e]at h
 | some ls=>
  simp only[e,q0,ca]at h;obtain⟨ds,h1,rfl⟩:=h;obtain⟨dE,arr,ty,eE,hu,bO,ao⟩:=aw id ls e;have:=hu b a8;subst this;obtain⟨U,aA⟩:=oR h1;have cell:∀j d,ds[j]?=some d->arr[j]?=some (arr.getD j undef)/\mJ w d (arr.getD j undef):=by
   intro j d aE;obtain⟨l,al,c4⟩:=aA j d aE;obtain⟨u,hd,fG⟩:=ao.2 j l al;have e2:arr.getD j undef=u:=by simp[fc,hd]
   rw[e2];exact⟨hd,aG.RF c4 fG⟩
  exact b3.ptr _ ds b arr ty (0,0) (fun j=>arr.getD j undef) bO rfl (by have:=ao.1;omega) (fun j d aE=>(cell j d aE).1) (fun j d aE=>(cell j d aE).2.frame fun _ _ _ _=>⟨rfl,rfl⟩)
theorem aG.y6(aw:xE w ω τ bs){l:aG}(h:l.kO bs=some d)(ao:Sat w ω τ l y):mJ w d y:=by
 unfold aG.kO at h;split at h
 ·rename_i id off;split at h
  ·rename_i a8;subst a8;obtain⟨b,h1,rfl⟩:=ao;exact UB aw h h1
  cases h
 ·rename_i g ids;rw[ca]at h;obtain⟨ds,h1,rfl⟩:=h;obtain⟨pf,rfl,aW,hi⟩:=ao;obtain⟨U,aA⟩:=oR h1;have cell:∀j d,ds[j]?=some d->(pf.map ptrTo).toArray[j]?=some ((pf.map ptrTo).toArray.getD j undef)/\mJ w d ((pf.map ptrTo).toArray.getD j undef):=by
   intro j d aE;obtain⟨id,hB,Kh⟩:=aA j d aE;obtain⟨b,hs,hS⟩:=hi j id hB;have e1:(pf.map ptrTo).toArray[j]?=some (ptrTo b):=by simp[hs]
   have e2:(pf.map ptrTo).toArray.getD j undef=ptrTo b:=by rw[fc,e1];rfl
   rw[e2];exact⟨e1,UB aw Kh hS⟩
  exact b3.cl _ g ds _ (fun j=>(pf.map ptrTo).toArray.getD j undef) (by simp;omega) (fun j d aE=>(cell j d aE).1) (fun j d aE=>(cell j d aE).2.frame fun _ _ _ _=>⟨rfl,rfl⟩)
 exact aG.RF h ao
theorem aI.y6(aw:xE w ω τ bs){p:aI}{cw:cR}(h:p.kO bs=some cw)(ao:cW (Sat w ω τ) p y):vb w cw y:=by
 cases p with
 | gx as=>cases h
 | aF a=>
  cases a with
  | one l=>
   simp only[aI.kO,bp.kO,ca]at h;obtain⟨d,h1,rfl⟩:=h;exact aG.y6 aw h1 ao
  | agg ls=>
   simp only[aI.kO,bp.kO,ca]at h;obtain⟨ds,h1,rfl⟩:=h;obtain⟨U,aA⟩:=oR h1;obtain⟨vs,rfl,aW,bF⟩:=ao;refine⟨vs,rfl,by omega,fun i d aE=>?_⟩;obtain⟨l,al,c4⟩:=aA i d aE;obtain⟨u,hu,fG⟩:=bF i l al;exact⟨u,hu,aG.y6 aw c4 fG⟩
def fX(P:Program)(g:FuncId):Bool:=
 match P.funcs[g]? with
 | some fn => !(fn.name == "runtime.NumGoroutine") && !fn.body.isNone
 | none=>false
def D.qT(t:Nat):D->aG
 | .v (.bool c)=>.bg c
 | .v x=>.v x
 | .J k es=>.J (.own t) k es
 | .ptr _=>.cp
 | .cl _ _=>.cp
def oS(t:Nat):Nat->List D->List aG
 | _,[]=>[]
 | j,d::ds=>d.qT (t+j)::oS t (j+1) ds
theorem Dc(t:Nat):∀(ds:List D) (j i:Nat),(oS t j ds)[i]?=(ds[i]?).map (D.qT (t+(j+i)))
 | [],_,_=>by simp[oS]
 | d::ds,j,0=>by simp[oS]
 | d::ds,j,i+1=>by
  simp only[oS,p8,Dc t ds (j+1) i];rw[show j+1+i=j+(i+1) by omega]
theorem AB(t:Nat):∀(ds:List D) (j:Nat),(oS t j ds).length=ds.length
 | [],_=>rfl
 | d::ds,j=>by simp[oS,AB t ds (j+1)]
def cR.res(t:Nat):cR->bp
 | .one d=>.one (d.qT t)
 | .agg ds=>.agg (oS t 0 ds)
def rY(t:Nat):Nat->List cR->List bp
 | _,[]=>[]
 | r,a::as=>a.res (t+100*r)::rY t (r+1) as
theorem Gw(t:Nat):∀(as:List cR) (r i:Nat),(rY t r as)[i]?=(as[i]?).map (cR.res (t+100*(r+i)))
 | [],_,_=>by simp[rY]
 | d::ds,j,0=>by simp[rY]
 | d::ds,j,i+1=>by
  simp only[rY,p8,Gw t ds (j+1) i];rw[show j+1+i=j+(i+1) by omega]
theorem F6(t:Nat):∀(as:List cR) (r:Nat),(rY t r as).length=as.length
 | [],_=>rfl
 | d::ds,j=>by simp[rY,F6 t ds (j+1)]
def uZ(t:Nat):List cR->aI
 | [a]=>.aF (a.res t)
 | as=>.gx (rY t 0 as)
def wm(rs:List cR):Bool:=rs.length<100&&rs.all fun | .one _=>true | .agg ds=>ds.length<100
def hg(t:Nat):Tag->Option Tag
 | .free=>some .free
 | .own s=>if t<=s/\s<t+10000 then some .free else some (.own s)
 | .ro s=>if t<=s/\s<t+10000 then some .free else some (.ro s)
def pO(t:Nat):dv->dv
 | .tok s q=>if t<=s/\s<t+10000 then .bP else .tok s q
 | o=>o
def UC(t:Nat):dv->dv
 | .tok s q=>.tok (t+s) q
 | _=>.bP
def cR.cell(j:Nat):cR->Option D
 | .one d=>if j=0 then some d else none
 | .agg ds=>ds[j]?
def ru(rs:List cR)(n:Nat):Nat:=
 match (rs[n / 100]?).bind (cR.cell (n % 100)) with
 | some (.J k _)=>k
 | _=>0
def oA(rs:List cR)(v:Value)(n:Nat):Value:=
 match rs with
 | [_]=>v.cells.getD (n % 100) undef
 | _=>match v with
  | .tuple vs=>(vs.getD (n / 100) undef).cells.getD (n % 100) undef
  | _=>undef
def aD.xc(st:aD)(t:Nat):aD:=st.map (aG.cN (hg t) fun _=>true)
theorem cM.called{w0:eT}{st:aD}{a:Act}{aN:World}(a6:cM w0 st a w ω τ)(t:Nat){rs:List cR}{v:Value}
  (eo:wm rs=true) (jK:t+10000<=dk) (aw:g' w.heap.size w aN) (fl:y2 w aN rs v):
  ∃bh c3,cM w0 (st.xc t) a aN bh c3/\cW (Sat aN bh c3) (uZ t rs) v:=by
 obtain⟨fJ,mY,mr,l4⟩:=fl
 let bh:Own:=fun b=>if b<w.heap.size then pO t (ω b) else UC t (fJ b)
 let c3:Nat->Nat×Value:=fun s=>if t<=s/\s<t+10000 then (ru rs (s-t),oA rs v (s-t)) else τ s
 have hold:∀b,b<w.heap.size->bh b=pO t (ω b):=fun b aw=>by simp only[bh];rw[bq aw]
 have hv:∀b,¬b<w.heap.size->bh b=UC t (fJ b):=fun b aw=>by simp only[bh];rw[bD aw]
 have bt:mQ w ω τ aN bh c3 (hg t) (fun _=>true):=by
  refine⟨?_,?_,?_,rfl,fun s ao=>by simp only[c3];rw[bD (by omega)]⟩
  ·intro g eN b q ay bR aH;refine⟨?_,aw.block b bR⟩;rw[hold b bR];cases g with
   | free=>simp only[hg,aZ]at ay;subst ay;simp only[Tag.R]at aH ⊢;rw[aH];rfl
   | own s=>
    simp only[Tag.R]at aH;simp only[hg]at ay;rw[aH];simp only[pO];split at ay
    ·simp only[aZ]at ay;subst ay;rw[bq ‹_›];rfl
    simp only[aZ]at ay;subst ay;rw[bD ‹_›];rfl
   | ro s=>
    simp only[Tag.R]at aH;simp only[hg]at ay;split at ay
    ·simp only[aZ]at ay;subst ay;rcases aH with h | ⟨ee,h⟩
     ·rw[h];rfl
     rw[h];simp only[pO];rw[bq ‹_›];rfl
    simp only[aZ]at ay;subst ay;rcases aH with h | ⟨ee,h⟩
    ·rw[h];exact .inl rfl
    rw[h];simp only[pO];rw[bD ‹_›];exact .inr ⟨ee,rfl⟩
  ·intro g eN y ay bu;cases g with
   | free=>simp only[hg,aZ]at ay;subst ay;exact trivial
   | own s=>
    simp only[hg]at ay;split at ay
    ·simp only[aZ]at ay;subst ay;exact trivial
    simp only[aZ]at ay;subst ay;simp only[Tag.et,c3]at bu ⊢;rw[bD ‹_›];exact bu
   | ro s=>
    simp only[hg]at ay;split at ay
    ·simp only[aZ]at ay;subst ay;exact trivial
    simp only[aZ]at ay;subst ay;exact trivial
  intro id b _ dm;have bR:=a6.owned.lt (b:=b) (by simp[dm]);rw[hold b bR,dm];rfl
 have cell:∀(n:Nat) (d:D) (u:Value),n<10000->oA rs v n=u->(∀k es,d=.J k es->ru rs n=k)->b3 aN fJ (Tag.own n).R d u->Sat aN bh c3 (d.qT (t+n)) u:=by
  intro n d u aW bF hk aC;cases d with
  | v x=>
   have e:u=x:=by cases aC;rfl
   subst e;unfold D.qT;split
   ·rename_i h;cases h;exact rfl
   ·rename_i h;cases h;exact rfl
   ·rename_i h;cases h
   ·exact trivial
   exact trivial
  | ptr ds=>exact trivial
  | cl g bk=>exact trivial
  | J k es=>
   refine⟨aC.frame fun b q bR aH=>⟨?_,rfl⟩,?_⟩
   ·simp only[Tag.R]at aH ⊢;have:¬b<w.heap.size:=fun h=>by have:=mY b h;rw[this]at aH;cases aH
    rw[hv b this,aH];rfl
   simp only[Tag.et,c3];rw[bq (by omega),show t+n-t=n by omega,bF,hk k es rfl]
 have vi:∀(r:Nat) (cw:cR) (y:Value),r<100->(∀ds,cw=.agg ds->ds.length<100)->rs[r]?=some cw->(∀j,j<100->oA rs v (100*r+j)=y.cells.getD j undef)->ng aN fJ r cw y->lc (Sat aN bh c3) (cw.res (t+100*r)) y:=by
  intro r cw y aC fj Cc bF pt;have ht:∀j,j<100->ru rs (100*r+j)=(match cR.cell j cw with | some (.J k _)=>k | _=>0):=by
   intro j bf;unfold ru;rw[show (100*r+j) / 100=r by omega,show (100*r+j) % 100=j by omega,Cc];rfl
  cases cw with
  | one d=>
   have h1:=pt.qH;have U:=bF 0 (by omega);rw[C9 h1]at U;have:=cell (100*r) d y (by omega) (by simpa using U) (fun k es e=>by
    have:=ht 0 (by omega);rw[o6]at this;rw[this,e];rfl) pt
   exact this
  | agg ds=>
   obtain⟨vs,rfl,aW,bf⟩:=pt;refine⟨vs,rfl,by rw[AB];exact aW,fun j l al=>?_⟩;rw[Dc,ca]at al;obtain⟨d,aE,rfl⟩:=al;obtain⟨u,hu,Cd⟩:=bf j d aE;have jG:j<100:=by
    have:=(ga.1 aE).1;have:=fj ds rfl;omega
   refine⟨u,hu,?_⟩;have:=cell (100*r+j) d u (by omega) (by rw[bF j jG];simp[Value.cells,fc,hu]) (fun k es e=>by
    rw[ht j jG];simp only[cR.cell,aE,e]) Cd
   rw[show t+100*r+(0+j)=t+(100*r+j) by omega];exact this
 simp only[wm,cu,cj]at eo;have fj:∀(r:Nat) (cw:cR),rs[r]?=some cw->∀ds,cw=.agg ds->ds.length<100:=by
  intro r cw aC ds e;have:=gn.1 eo.2 cw (gj aC);subst e;simpa using this
 refine⟨bh,c3,a6.dc _ bt.sat (a6.below.next aw) ?_ ?_ ?_ (fun s ao=>by simp only[c3];rw[bD (by omega)]),?_⟩
 ·intro b gH;by_cases bR:b<w.heap.size
  ·rw[hold b bR]at gH;have U:ω b≠.bP:=fun e=>by rw[e]at gH;exact gH rfl
   obtain⟨aA,arr,ty,aJ⟩:=a6.owned b U;exact⟨aA,arr,ty,(aw.block b bR).trans aJ⟩
  rw[hv b bR]at gH;have U:fJ b≠.bP:=fun e=>by rw[e]at gH;exact gH rfl
  obtain⟨_,arr,ty,aJ⟩:=mr b U;exact⟨.inl (by have:=a6.below.size;omega),arr,ty,aJ⟩
 ·intro id b dm;have bR:=a6.owned.lt (b:=b) (by simp[dm]);exact⟨bt.box id b rfl dm,aw.block b bR⟩
 ·intro id b dm;by_cases bR:b<w.heap.size
  ·rw[hold b bR]at dm;cases e:ω b with
   | bP=>rw[e]at dm;cases dm
   | box i=>rw[e]at dm;exact dm
   | tok s q=>rw[e]at dm;simp only[pO]at dm;split at dm<;>cases dm
  ·rw[hv b bR]at dm;cases e:fJ b<;>(rw[e]at dm;cases dm)
 cases rs with
 | nil=>
  obtain⟨vs,rfl,aW,_⟩:=l4;exact⟨vs,rfl,aW,fun i a ah=>by simp[rY]at ah⟩
 | cons cw rest=>
  cases rest with
  | nil=>
   have:=vi 0 cw v (by omega) (fj 0 cw rfl) rfl (fun j bf=>by
    unfold oA;simp only[Nat.mul_zero,dX];rw[ER bf]) l4
   exact this
  | cons RE rest=>
   obtain⟨vs,rfl,aW,bF⟩:=l4;refine⟨vs,rfl,by rw[F6];exact aW,fun i a ah=>?_⟩;rw[Gw,ca]at ah;obtain⟨pc,h1,rfl⟩:=ah;obtain⟨y,bu,BW⟩:=bF i pc h1;have kv:i<100:=by
    have:=(ga.1 h1).1;omega
   refine⟨y,bu,?_⟩;have:=vi i pc y kv (fj i pc h1) h1 (fun j bf=>by
    unfold oA;simp only;rw[show (100*i+j) / 100=i by omega,show (100*i+j) % 100=j by omega];simp[fc,bu]) BW
   rw[dX];exact this
end Go.Sx
namespace Go.Sx
open Go.RowKit
inductive eM where
 | ro (d:D)
 | e5 (k:Nat) (es:List (List D)) (post:Option (List (List D)))
inductive GA where
 | one (c:eM)
 | agg (cs:List eM)
def fy(i j:Nat):Nat:=dk+(100*i+j)
def GA.cell(j:Nat):GA->Option eM
 | .one c=>if j=0 then some c else none
 | .agg cs=>cs[j]?
def cellOf(v:Value)(j:Nat):Value:=v.cells.getD j undef
def w5(w:World)(ω:Own)(t:Nat):eM->Value->Prop
 | .ro d,y=>b3 w ω Tag.free.R d y
 | .e5 k es _,y=>b3 w ω (Tag.own t).R (.J k es) y
def RA(w:World)(ω:Own)(i:Nat):GA->Value->Prop
 | .one c,y=>w5 w ω (fy i 0) c y
 | .agg cs,y=>∃vs:Array Value,y=.agg vs/\vs.size=cs.length/\∀(j:Nat) (c:eM),cs[j]?=some c->∃u,vs[j]?=some u/\w5 w ω (fy i j) c u
def Ju(w:World)(ω:Own):Prop:=∀b,ω b≠.bP->(∃t q,ω b=.tok t q/\dk<=t)/\∃arr ty,w.heap[b]?=some (.cells arr ty (0,0))
def Jt(w:World)(ω:Own)(args:List GA)(vs:Array Value):Prop:=Ju w ω/\vs.size=args.length/\∀(i:Nat) (fe:GA),args[i]?=some fe->∃v,vs[i]?=some v/\RA w ω i fe v
def Kept(w:World)(ω:Own)(args:List GA)(vs:Array Value):Prop:=
 ∀(i j:Nat) (fe:GA) (k:Nat) (es cC:List (List D)),args[i]?=some fe->fe.cell j=some (.e5 k es (some cC))->b3 w ω (Tag.own (fy i j)).R (.J k cC) (cellOf (vs.getD i undef) j)
def ks(P:Program)(f:FuncId)(args:List GA)(rs:List cR):Prop:=
 ∀(w:World) (vs:Array Value) (ω:Own),Jt w ω args vs->Tidy w ω->Calls P f vs w fun e aN=>∃v,e=.returned v/\gZ ⟨w,fun b=>ω b≠.bP,fun _=>(0,undef)⟩ aN/\
  ∃bh:Own,(∀b,b<w.heap.size->ω b=.bP->bh b=.bP)/\(∀b,bh b≠.bP->(∃t q,bh b=.tok t q)/\∃arr ty,aN.heap[b]?=some (.cells arr ty (0,0)))/\Kept aN bh args vs/\nX aN bh rs v
structure dB where
 i:Nat
 j:Nat
 t:Nat
 p:Option (Nat×Nat)
 k:Nat
 es:List (List D)
 post:Option (List (List D))
abbrev q5:=Option (Option (List (List D)))
def y9(bs:mP)(i j:Nat):q5->aG->Option (eM×List dB×List aG)
 | none,l=>(l.kO bs).map fun d=>(.ro d,[],[l])
 | some post,.J (.own t) k es=>some (.e5 k es post,[⟨i,j,t,none,k,es,post⟩],[])
 | some post,.aR t a b k es .here=>some (.e5 k es post,[⟨i,j,t,some (a,b),k,es,post⟩],[])
 | _,_=>none
def qN(bs:mP)(i:Nat):Nat->List q5->List aG->Option (List eM×List dB×List aG)
 | _,[],[]=>some ([],[],[])
 | j,m::ms,l::ls=>
  match y9 bs i j m l,qN bs i (j+1) ms ls with
  | some (c,h,r),some (cs,ao,rs)=>some (c::cs,h++ao,r++rs)
  | _,_=>none
 | _,_,_=>none
def Bm(bs:mP)(i:Nat)(ms:List q5):aI->Option (GA×List dB×List aG)
 | .aF (.one l)=>match ms with | [m]=>(y9 bs i 0 m l).map fun r=>(.one r.1,r.2) | _=>none
 | .aF (.agg ls)=>(qN bs i 0 ms ls).map fun r=>(.agg r.1,r.2)
 | _=>none
def xb(bs:mP):Nat->List (List q5)->List aI->Option (List GA×List dB×List aG)
 | _,[],[]=>some ([],[],[])
 | i,ms::LG,p::cz=>
  match Bm bs i ms p,xb bs (i+1) LG cz with
  | some (a,h,r),some (as,ao,rs)=>some (a::as,h++ao,r++rs)
  | _,_=>none
 | _,_,_=>none
def tz(ao:List dB)(t:Nat):Bool:=ao.any fun h=>h.t==t
def Tag.oJ(ao:List dB):Tag->Bool
 | .free=>false
 | .own t=>tz ao t
 | .ro t=>tz ao t
def aG.qE(ao:List dB):aG->Bool
 | .J t _ _=>t.oJ ao
 | .ep t _ _ _ _=>t.oJ ao
 | .aR t _ _ _ _ _=>tz ao t
 | .fP _ _=>true
 | _=>false
def aG.oJ(bs:mP)(ao:List dB):aG->Bool
 | .ptr id _=>match dK id bs with | some ls=>ls.any (aG.qE ao) | none=>true
 | .hq _ ids=>ids.any fun id=>match dK id bs with | some ls=>ls.any (aG.qE ao) | none=>true
 | l=>l.qE ao
def dB.apart(h y:dB):Bool:=
 (h.i != y.i||h.j != y.j)&&(h.t != y.t||match h.p,y.p with | some p,some q=>p.2 != q.2 | _,_=>false)
def pP:List dB->Bool
 | []=>true
 | h::r=>decide (h.j<100)&&(r.all (dB.apart h)&&pP r)
theorem UD:∀{ao:List dB},pP ao=true->∀h∈ao,∀y∈ao,h=y\/(dB.apart h y=true\/dB.apart y h=true)
 | [],_,h,bO,_,_=>by cases bO
 | x::r,hk,h,bO,y,bu=>by
  simp only[pP,cu,gn]at hk;rcases ev.1 bO with e1 | Sq
  ·rcases ev.1 bu with e2 | KY
   ·exact .inl (e1.trans e2.symm)
   rw[e1];exact .inr (.inl (hk.2.1 y KY))
  rcases ev.1 bu with e2 | KY
  ·rw[e2];exact .inr (.inr (hk.2.1 h Sq))
  exact UD hk.2.2 h Sq y KY
theorem UE:∀{ao:List dB},pP ao=true->∀h∈ao,h.j<100
 | [],_,h,bO=>by cases bO
 | x::r,hk,h,bO=>by
  simp only[pP,cu,cj]at hk;rcases ev.1 bO with rfl | bO
  ·exact hk.1
  exact UE hk.2.2 h bO
def dB.fit(h:dB)(t:Nat)(q:List (Nat×Nat)):Option (List (Nat×Nat)):=
 if h.t=t then
  match h.p,q with
  | none,q=>some q
  | some p,x::ee=>if x=p then some ee else none
  | some _,[]=>none
 else none
def oo(t:Nat)(q:List (Nat×Nat)):List dB->Option (Nat×List (Nat×Nat))
 | []=>none
 | h::r=>match h.fit t q with | some ee=>some (fy h.i h.j,ee) | none=>oo t q r
variable{h:dB}{t:Nat}{q:List (Nat×Nat)}
theorem aAA{y:dB}{q1 ie:List (Nat×Nat)}(h1:h.fit t q=some q1)(U:y.fit t q=some ie):dB.apart h y=false:=by
 unfold dB.fit at h1 U;split at h1
 ·rename_i e1;split at U
  ·rename_i e2;have ch:(h.t != y.t)=false:=by simp[e1,e2]
   simp only[dB.apart,ch,hn,Bool.and_eq_false_imp];intro _;split at h1
   ·rename_i hp;rw[hp]
   ·rename_i p x ee hp;split at h1
    ·rename_i ag;split at U
     ·rename_i ud;rw[hp,ud]
     ·rename_i LS gN aGy ud heq;split at U
      ·rename_i kz;rw[hp,ud];simp only[tD]at heq;obtain⟨rfl,_⟩:=heq;subst ag;subst kz;simp
      cases U
     cases U
    cases h1
   cases h1
  cases U
 cases h1
theorem M8{t:Nat}{q ee:List (Nat×Nat)}:∀{ao:List dB},pP ao=true->∀{h:dB},h∈ao->h.fit t q=some ee->oo t q ao=some (fy h.i h.j,ee)
 | [],_,h,bO,_=>by cases bO
 | x::r,hk,h,bO,bI=>by
  have j':=hk;simp only[pP,cu,gn]at hk;simp only[oo];rcases ev.1 bO with rfl | bO
  ·rw[bI]
  cases e:x.fit t q with
  | none=>exact M8 hk.2.2 bO bI
  | some ie=>
   have:=aAA e bI;rw[hk.2.1 h bO]at this;cases this
theorem Dd{g:Nat}{ee:List (Nat×Nat)}:∀{ao:List dB},oo t q ao=some (g,ee)->∃h∈ao,h.fit t q=some ee/\g=fy h.i h.j
 | [],h=>by cases h
 | x::r,h=>by
  simp only[oo]at h;split at h
  ·rename_i ie e;simp only[aZ,bL]at h;obtain⟨rfl,rfl⟩:=h;exact⟨x,h2,e,rfl⟩
  obtain⟨y,bu,U⟩:=Dd h;exact⟨y,gE _ bu,U⟩
theorem UF{ee:List (Nat×Nat)}(e:h.fit t q=some ee):h.t=t/\q=h.p.toList++ee:=by
 unfold dB.fit at e;split at e
 ·rename_i e1;refine⟨e1,?_⟩;split at e
  ·rename_i hp;simp only[aZ]at e;rw[hp,e];rfl
  ·rename_i p x ie hp;split at e
   ·rename_i ag;simp only[aZ]at e;rw[hp,ag,e];rfl
   cases e
  cases e
 cases e
theorem UG(h:dB)(q:List (Nat×Nat)):h.fit h.t (h.p.toList++q)=some q:=by
 unfold dB.fit;rw[bq rfl];cases h.p with
 | none=>rfl
 | some p=>simp
def gu(ao:List dB)(ω:Own):Own:=fun b=>
 match ω b with
 | .tok t q=>match oo t q ao with | some (g,ee)=>.tok g ee | none=>.bP
 | _=>.bP
def E8(g:Nat):List dB->Option dB
 | []=>none
 | h::r=>if fy h.i h.j=g then some h else E8 g r
theorem UH:∀{ao:List dB},pP ao=true->∀{h:dB},h∈ao->E8 (fy h.i h.j) ao=some h
 | [],_,h,bO=>by cases bO
 | x::r,hk,h,bO=>by
  have bf:=UE hk;have j':=hk;simp only[pP,cu,gn]at hk;simp only[E8];rcases ev.1 bO with rfl | sH
  ·rw[bq rfl]
  rw[bD]
  ·exact UH hk.2.2 sH
  intro e;have h1:=bf x h2;have U:=bf h (gE _ sH);have aA:=hk.2.1 h sH;simp only[dB.apart,cu,o5,bne_iff_ne,lZ]at aA;simp only[fy]at e;omega
def De(ao:List dB)(t0:Nat):dv->dv
 | .tok s q=>if dk<=s then (match E8 s ao with | some h=>.tok h.t (h.p.toList++q) | none=>.bP) else .tok (t0+s) q
 | _=>.bP
def xF(t:Nat):List dB->Option dB
 | []=>none
 | h::r=>if h.t=t then some h else xF t r
theorem UI:∀{ao:List dB},xF t ao=none->tz ao t=false
 | [],_=>rfl
 | h::r,e=>by
  simp only[xF]at e;split at e
  ·cases e
  rename_i cZ;have:=UI e;simp only[tz,EP,fC]at this ⊢;exact⟨by simpa using cZ,this⟩
theorem UJ:∀{ao:List dB},xF t ao=some h->h∈ao/\h.t=t
 | [],e=>by cases e
 | x::r,e=>by
  simp only[xF]at e;split at e
  ·simp only[aZ]at e;subst e;exact⟨h2,‹_›⟩
  obtain⟨h1,U⟩:=UJ e;exact⟨gE _ h1,U⟩
def nY:List dB->List D->List D
 | [],ds=>ds
 | h::r,ds=>match h.p,h.post with
  | some p,some es=>nY r (ds.set p.2 (.J h.k es))
  | _,_=>nY r ds
def tg(ao:List dB)(t0 iC pF:Nat)(q':List (List D)):aG->aG
 | .J (.own t) k es=>
  match xF t ao with
  | some h=>match h.p,h.post with
   | none,some cC=>.J (.own t) h.k cC
   | none,none=>.cp
   | some _,_=>if t=iC then .J (.own t) pF q' else .cp
  | none=>aG.cN (hg t0) (fun _=>true) (.J (.own t) k es)
 | l=>if l.qE ao then .cp else l.cN (hg t0) fun _=>true
end Go.Sx
namespace Go.Sx
open Go.RowKit
variable{ao:List dB}
theorem aAB{t:Nat}(h:tz ao t=false):∀y∈ao,y.t≠t:=by
 intro y bu e;simp only[tz,fx,kq]at h;exact h y bu e
theorem M9{t:Nat}(h:tz ao t=false)(q:List (Nat×Nat)):oo t q ao=none:=by
 cases e:oo t q ao with
 | none=>rfl
 | some x=>
  obtain⟨g,ee⟩:=x;obtain⟨y,bu,bI,_⟩:=Dd e;exact absurd (UF bI).1 (aAB h y bu)
structure EW (w:World) (ω:Own) (τ:Nat->Nat×Value) (h:dB) (u:Value):Prop where
 rep:b3 w ω (fun q o=>o=.tok h.t (h.p.toList++q)) (.J h.k h.es) u
 root:h.p=none->τ h.t=(h.k,u)
 cell:∀a b,h.p=some (a,b)->∃(kT b8 off len cap:Nat) (arr:Array Value) (ty:TypeId) (cY:Nat×Nat),τ h.t=(kT,.slice (some ⟨b8,off,none⟩) len cap)/\ω b8=.tok h.t []/\w.heap[b8]?=some (.cells arr ty cY)/\arr[off+a*kT+b]?=some u
structure RD (w:World) (ω:Own) (τ:Nat->Nat×Value) (ao:List dB) (iC pF:Nat) (q':List (List D)):Prop where
 ex:∀h∈ao,∀p,h.p=some p->h.t=iC->∃(dT:List (List D)) (y:Value) (ds:List D) (a:Nat),Sat w ω τ (.J (.own iC) pF dT) y/\dT[a]?=some ds/\ds.length=pF/\q'=dT.set a (nY ao ds)/\
  ∀x∈ao,∀q,x.p=some q->x.t=iC/\q.1=a/\∃cC,x.post=some cC
theorem Df:∀(ao:List dB) (ds:List D),(nY ao ds).length=ds.length
 | [],_=>rfl
 | h::r,ds=>by
  simp only[nY];split
  ·rw[Df r,ho]
  exact Df r ds
theorem M'{y:Nat}{d:D}:∀{ao:List dB} {ds:List D},(nY ao ds)[y]?=some d->(∃h∈ao,∃a cC,h.p=some (a,y)/\h.post=some cC/\d=.J h.k cC)\/ds[y]?=some d/\∀h∈ao,∀a cC,h.p=some (a,y)->h.post=some cC->False
 | [],ds,h=>.inr ⟨h,fun _ bO=>by cases bO⟩
 | h::r,ds,aE=>by
  simp only[nY]at aE;split at aE
  ·rename_i p cC e1 e2;rcases M' aE with⟨x,ag,a,bZ,h1,U,aA⟩ | ⟨h1,U⟩
   ·exact .inl ⟨x,gE _ ag,a,bZ,h1,U,aA⟩
   rw[p7]at h1;split at h1
   ·rename_i hp;split at h1
    ·simp only[aZ]at h1;exact .inl ⟨h,h2,p.1,cC,by rw[e1,<-hp],e2,h1.symm⟩
    cases h1
   rename_i hp;refine .inr ⟨h1,fun x ag a bZ aA aJ=>?_⟩;rcases ev.1 ag with rfl | ag
   ·rw[e1]at aA;simp only[aZ]at aA;rw[aA]at hp;exact hp rfl
   exact U x ag a bZ aA aJ
  rename_i cZ;rcases M' aE with⟨x,ag,a,bZ,h1,U,aA⟩ | ⟨h1,U⟩
  ·exact .inl ⟨x,gE _ ag,a,bZ,h1,U,aA⟩
  refine .inr ⟨h1,fun x ag a bZ aA aJ=>?_⟩;rcases ev.1 ag with rfl | ag
  ·exact cZ _ _ aA aJ
  exact U x ag a bZ aA aJ
theorem cM.acU{w0:eT}{st:aD}{a:Act}{w aN:World}{ω:Own}{τ:Nat->Nat×Value}(a6:cM w0 st a w ω τ)(t0:Nat){rs:List cR}{v:Value}{H:Nat->Nat×Value}
  (bY:pP ao=true) (eo:wm rs=true) (jK:t0+10000<=dk) (SN:∀h∈ao,¬(t0<=h.t/\h.t<t0+10000)) (aw:gZ ⟨w,fun b=>gu ao ω b≠.bP,H⟩ aN) (fJ:Own)
  (mY:∀b,b<w.heap.size->gu ao ω b=.bP->fJ b=.bP) (mr:∀b,fJ b≠.bP->(∃t q,fJ b=.tok t q)/\∃arr ty,aN.heap[b]?=some (.cells arr ty (0,0))) (l4:nX aN fJ rs v)
  (vals:dB->Value) (Ky:∀h∈ao,∀cC,h.post=some cC->b3 aN fJ (Tag.own (fy h.i h.j)).R (.J h.k cC) (vals h)) (hD:∀h∈ao,EW w ω τ h (vals h))
  {iC pF:Nat} {q':List (List D)} (kc:RD w ω τ ao iC pF q'):
  ∃bh c3,cM w0 (st.map (tg ao t0 iC pF q')) a aN bh c3/\cW (Sat aN bh c3) (uZ t0 rs) v:=by
 classical
 let bh:Own:=fun b=>if b<w.heap.size/\gu ao ω b=.bP then pO t0 (ω b) else De ao t0 (fJ b)
 let c3:Nat->Nat×Value:=fun s=>if t0<=s/\s<t0+10000 then (ru rs (s-t0),oA rs v (s-t0)) else τ s
 have hold:∀b,b<w.heap.size->gu ao ω b=.bP->bh b=pO t0 (ω b):=fun b aw h=>by simp only[bh];rw[bq ⟨aw,h⟩]
 have hv:∀b,fJ b≠.bP->bh b=De ao t0 (fJ b):=fun b aw=>by
  simp only[bh];rw[bD];rintro⟨h1,U⟩;exact aw (mY b h1 U)
 have hblk:∀b,b<w.heap.size->gu ao ω b=.bP->aN.heap[b]?=w.heap[b]?:=fun b bR h=>aw.block b bR (fun aW=>aW h)
 have ry:∀b,ω b=.bP->gu ao ω b=.bP:=fun b h=>by simp only[gu,h]
 have adp:∀b id,ω b=.box id->gu ao ω b=.bP:=fun b id h=>by simp only[gu,h]
 have kX:∀b s q,ω b=.tok s q->oo s q ao=none->gu ao ω b=.bP:=fun b s q h U=>by simp only[gu,h,U]
 have uo:∀h∈ao,c3 h.t=τ h.t:=fun h bO=>by simp only[c3];rw[bD (SN h bO)]
 have e9:∀(g eN:Tag) (b:Nat) (q:List (Nat×Nat)),g.oJ ao=false->hg t0 g=some eN->b<w.heap.size->g.R q (ω b)->eN.R q (bh b)/\aN.heap[b]?=w.heap[b]?:=by
  intro g eN b q hm ay bR aH;have hi:gu ao ω b=.bP:=by
   cases g with
   | free=>exact ry b aH
   | own s=>exact kX b s q aH (M9 hm q)
   | ro s=>
    rcases aH with h | ⟨ee,h⟩
    ·exact ry b h
    exact kX b s ee h (M9 hm ee)
  refine⟨?_,hblk b bR hi⟩;rw[hold b bR hi];cases g with
  | free=>simp only[hg,aZ]at ay;subst ay;simp only[Tag.R]at aH ⊢;rw[aH];rfl
  | own s=>
   simp only[Tag.R]at aH;simp only[hg]at ay;rw[aH];simp only[pO];split at ay
   ·simp only[aZ]at ay;subst ay;rw[bq ‹_›];rfl
   simp only[aZ]at ay;subst ay;rw[bD ‹_›];rfl
  | ro s=>
   simp only[Tag.R]at aH;simp only[hg]at ay;split at ay
   ·simp only[aZ]at ay;subst ay;rcases aH with h | ⟨ee,h⟩
    ·rw[h];rfl
    rw[h];simp only[pO];rw[bq ‹_›];rfl
   simp only[aZ]at ay;subst ay;rcases aH with h | ⟨ee,h⟩
   ·rw[h];exact .inl rfl
   rw[h];simp only[pO];rw[bD ‹_›];exact .inr ⟨ee,rfl⟩
 have Ly:∀(g eN:Tag) (y:Nat×Value),hg t0 g=some eN->g.et τ y->eN.et c3 y:=by
  intro g eN y ay bu;cases g with
  | free=>simp only[hg,aZ]at ay;subst ay;exact trivial
  | own s=>
   simp only[hg]at ay;split at ay
   ·simp only[aZ]at ay;subst ay;exact trivial
   simp only[aZ]at ay;subst ay;simp only[Tag.et,c3]at bu ⊢;rw[bD ‹_›];exact bu
  | ro s=>
   simp only[hg]at ay;split at ay
   ·simp only[aZ]at ay;subst ay;exact trivial
   simp only[aZ]at ay;subst ay;exact trivial
 have zF:∀id b,ω b=.box id->bh b=.box id/\aN.heap[b]?=w.heap[b]?:=by
  intro id b dm;have bR:=a6.owned.lt (b:=b) (by simp[dm]);have hi:=adp b id dm;exact⟨by rw[hold b bR hi,dm];rfl,hblk b bR hi⟩
 have Tb:∀h∈ao,∀cC,h.post=some cC->b3 aN bh (fun q o=>o=.tok h.t (h.p.toList++q)) (.J h.k cC) (vals h):=by
  intro h bO cC he;refine (Ky h bO cC he).frame fun b q _ aH=>⟨?_,rfl⟩
  simp only[Tag.R]at aH;rw[hv b (by rw[aH];simp),aH];simp only[De];rw[bq (by simp[fy]),UH bY bO]
 have e8:∀l y,Sat w ω τ l y->Sat aN bh c3 (tg ao t0 iC pF q' l) y:=by
  intro l y dr;have plain:∀g k es,g.oJ ao=false->Sat w ω τ (.J g k es) y->Sat aN bh c3 (aG.cN (hg t0) (fun _=>true) (.J g k es)) y:=by
   intro g k es hm nQ;simp only[aG.cN];cases ay:hg t0 g with
   | none=>exact trivial
   | some eN=>exact⟨nQ.1.frame fun b q bR aH=>e9 g eN b q hm ay bR aH,Ly g eN _ ay nQ.2⟩
  cases l with
  | cp=>exact trivial
  | v x=>exact dr
  | bg c=>exact dr
  | ptr id off=>
   obtain⟨b,h1,U⟩:=dr;exact⟨b,(zF id b h1).1,U⟩
  | hq f ids=>
   obtain⟨bs,e,aW,hi⟩:=dr;simp only[tg,aG.qE,oc,mh,aG.cN];split
   ·refine⟨bs,e,aW,fun i id hB=>?_⟩;obtain⟨b,h1,U⟩:=hi i id hB;exact⟨b,h1,(zF id b U).1⟩
   exact trivial
  | hY ds off=>
   obtain⟨b,e,aC⟩:=dr;exact⟨b,e,aC.frame fun b q bR aH=>e9 .free .free b q rfl rfl bR aH⟩
  | fd d=>exact b3.frame dr fun b q bR aH=>e9 .free .free b q rfl rfl bR aH
  | dC t k es=>exact⟨b3.frame dr.1 fun b q bR aH=>e9 .free .free b q rfl rfl bR aH,fun bK=>(show c3 t=τ t by simp only[c3];rw[bD (by omega)]).trans (dr.2 bK)⟩
  | aR t i j k es m=>
   simp only[tg];by_cases hm:aG.qE ao (.aR t i j k es m)=true
   ·rw[bq hm];exact trivial
   rw[bD hm];simp only[wZ]at hm;replace hm:tz ao t=false:=hm;simp only[aG.cN];split
   ·rename_i dx ay;split
    ·rename_i bK;subst bK;obtain⟨fo,sO,h1,aen⟩:=dr;refine⟨fo,sO,h1.frame fun c q ai aH=>e9 (.own dx) _ c _ hm ay ai aH,fun adV=>?_⟩;obtain⟨kT,b,off,len,cap,arr,ty,cY,U,a7,aA,aJ⟩:=aen adV;have bR:b<w.heap.size:=(jj.1 aA).1;have hk:=e9 (.own dx) _ b [] hm ay bR a7;exact⟨kT,b,off,len,cap,arr,ty,cY,Ly _ _ _ ay U,hk.1,hk.2.trans aA,aJ⟩
    exact trivial
   exact trivial
  | fP t vs=>
   simp only[tg,aG.qE,gy];exact trivial
  | ep g k es i j=>
   simp only[tg];by_cases hm:aG.qE ao (.ep g k es i j)=true
   ·rw[bq hm];exact trivial
   rw[bD hm];simp only[wZ]at hm;replace hm:g.oJ ao=false:=hm;obtain⟨b,off,cap,e,hi,aC,bO⟩:=dr;simp only[aG.cN];cases ay:hg t0 g with
   | none=>exact trivial
   | some eN=>exact⟨b,off,cap,e,hi,aC.frame fun b q bR aH=>e9 g eN b q hm ay bR aH,Ly g eN _ ay bO⟩
  | J g k es=>
   cases g with
   | free=>exact plain .free k es rfl dr
   | ro s=>
    simp only[tg];by_cases hm:aG.qE ao (.J (.ro s) k es)=true
    ·rw[bq hm];exact trivial
    rw[bD hm];simp only[wZ]at hm;exact plain (.ro s) k es hm dr
   | own s=>
    simp only[tg];cases bI:xF s ao with
    | none=>exact plain (.own s) k es (UI bI) dr
    | some h=>
     obtain⟨bO,rfl⟩:=UJ bI;simp only;have bF:=hD h bO;have et:τ h.t=(k,y):=dr.2;split
     ·
      rename_i cC hp he;have e1:=bF.root hp;rw[et]at e1;simp only[bL]at e1;obtain⟨rfl,e2⟩:=e1;have aC:=Tb h bO cC he;rw[hp,<-e2]at aC;exact⟨aC,by simp only[Tag.et];rw[uo h bO,et]⟩
     ·exact trivial
     -- parts of it
     rename_i p hp;split
     ·rename_i vF;obtain⟨dT,mM,ds,a0,zz,fj,rr,rfl,h9⟩:=kc.ex h bO p hp vF;have Kj:τ iC=(pF,mM):=zz.2;rw[<-vF,et]at Kj;simp only[bL]at Kj;obtain⟨rfl,rfl⟩:=Kj;obtain⟨rD,_⟩:=zz;have hlen:(dT.set a0 (nY ao ds)).length=dT.length:=ho;have R8:a0<dT.length:=(ga.1 fj).1;refine⟨?_,by simp only[Tag.et];rw[uo h bO,et]⟩;generalize bu:y=Rx at rD;cases rD with
      | nil=>simp at R8
      | row R k dT b8 off cap arr ty cY us Ka ef adz dO hk hu aE=>
       subst bu;have Fq:ω b8=.tok h.t []:=by rw[vF];exact ef
       have SE:∀x∈ao,x.fit iC []=none:=by
        intro x ag;unfold dB.fit;split
        ·rename_i ext;cases FT:x.p with
         | some q=>simp
         | none=>
          exfalso;have cZ:dB.apart h x=true\/dB.apart x h=true\/h=x:=by
           rcases UD bY h bO x ag with e | e | e
           ·exact .inr (.inr e)
           ·exact .inl e
           exact .inr (.inl e)
          have vt:∀y z:dB,y.t=z.t->(y.p=none\/z.p=none)->dB.apart y z=true->False:=by
           intro y z e1 e2 ch;simp only[dB.apart,e1,cu,o5,bne_self_eq_false,oc,false_or]at ch;rcases e2 with e2 | e2
           ·simp[e2]at ch
           ·rw[e2]at ch;cases hyp:y.p<;>simp[hyp]at ch
          rcases cZ with e | e | e
          ·exact vt h x (by rw[ext,vF]) (.inr FT) e
          ·exact vt x h (by rw[ext,vF]) (.inl FT) e
          rw[<-e,hp]at FT;cases FT
        rfl
       have lG:oo iC [] ao=none:=by
        cases e:oo iC [] ao with
        | none=>rfl
        | some z=>
         obtain⟨g,ee⟩:=z;obtain⟨x,ag,S2,_⟩:=Dd e;rw[SE x ag]at S2;cases S2
       have adn:b8<w.heap.size:=(jj.1 Ka).1;have aFm:gu ao ω b8=.bP:=kX b8 iC [] ef lG;have aeF:¬(t0<=iC/\iC<t0+10000):=by rw[<-vF];exact SN h bO
       have SH:∀b q,b<w.heap.size->ω b=.tok iC q->oo iC q ao=none->bh b=.tok iC q/\aN.heap[b]?=w.heap[b]?:=by
        intro b q bR aH aW;have hi:=kX b iC q aH aW;refine⟨?_,hblk b bR hi⟩;rw[hold b bR hi,aH];simp only[pO];rw[bD aeF]
       have SG:∀x y d,df dT x y=some d->(∀z∈ao,z.p≠some (x,y))->b3 aN bh (fun q=>(Tag.own iC).R ((x,y)::q)) d (us x y):=by
        intro x y d ai bb;refine (aE x y d ai).frame fun b q bR aH=>?_
        refine SH b _ bR aH ?_;cases e:oo iC ((x,y)::q) ao with
        | none=>rfl
        | some r=>
         obtain⟨g,ee⟩:=r;obtain⟨z,um,afh,_⟩:=Dd e;obtain⟨e1,e2⟩:=UF afh;exfalso;cases sT:z.p with
         | none=>
          have:=SE z um;unfold dB.fit at this;rw[bq e1,sT]at this;simp at this
         | some r=>
          rw[sT]at e2;simp only[Bd,List.cons_append,List.nil_append,tD]at e2;exact bb z um (by rw[sT,<-e2.1])
       have key:∀x y d,df (dT.set a0 (nY ao ds)) x y=some d->b3 aN bh (fun q=>(Tag.own iC).R ((x,y)::q)) d (us x y):=by
        intro x y d ai;by_cases ag:x=a0
        ·subst ag;have mr:(nY ao ds)[y]?=some d:=by
          simpa[df,p7,R8]using ai
         rcases M' mr with⟨z,bb,dN,cC,h1,U,rfl⟩ | ⟨h1,U⟩
         ·obtain⟨e1,e2,_⟩:=h9 z bb _ h1;have e2:dN=x:=e2;subst e2;obtain⟨kT,e7,aGn,aGh,aEM,aEI,aGK,aE5,g1,g2,g3,g4⟩:=(hD z bb).cell _ _ h1;rw[e1,<-vF,et]at g1;simp only[bL,Value.slice.injEq,aZ,Addr.mk.injEq]at g1;obtain⟨rfl,⟨rfl,rfl,_⟩,_,_⟩:=g1;rw[Ka]at g3;simp only[aZ,Obj.cells.injEq]at g3;obtain⟨rfl,_,_⟩:=g3;have afd:y<ds.length:=by
           have:=(ga.1 mr).1;rwa[Df]at this
          have fA:df dT dN y=some ds[y]:=by simp[df,fj,afd]
          have ae5:us dN y=vals z:=by
           have:=hu dN y _ fA;rw[g4]at this;exact (gO this).symm
          rw[ae5];have aC:=Tb z bb cC U;rw[h1,e1]at aC;exact aC
         have fA:df dT x y=some d:=by simp[df,fj,h1]
         refine SG x y d fA fun z bb sT=>?_
         obtain⟨_,_,cC,he⟩:=h9 z bb _ sT;exact U z bb x cC sT he
        have fA:df dT x y=some d:=by
         simp only[df,p7]at ai;rw[bD (by omega)]at ai;exact ai
        refine SG x y d fA fun z bb sT=>?_
        obtain⟨_,e2,_⟩:=h9 z bb _ sT;exact ag e2
       have hs:=SH b8 [] adn ef lG;have:=b3.row (w:=aN) (ω:=bh) (Tag.own iC).R k (dT.set a0 (nY ao ds)) b8 off cap arr ty cY us (hs.2.trans Ka) hs.1 (by rw[hlen];exact adz) dO
        (fun e he=>by
         rcases iD he with ez | rfl
         ·exact hk e ez
         rw[Df];exact rr)
        (fun x y d ai=>by
         have gz:x<dT.length/\y<k:=by
          have j':∀e∈dT.set a0 (nY ao ds),e.length=k:=fun e he=>by
           rcases iD he with ez | rfl
           ·exact hk e ez
           rw[Df];exact rr
          have ez:x<(dT.set a0 (nY ao ds)).length/\y<k:=by
           unfold df at ai;cases Bo:(dT.set a0 (nY ao ds))[x]? with
           | none=>simp[Bo]at ai
           | some row=>
            simp only[Bo,q0]at ai;have hm:=j' row (gj Bo);exact⟨(ga.1 Bo).1,by rw[<-hm];exact (ga.1 ai).1⟩
          rw[hlen]at ez;exact ez
         have xp:(dT[x]'gz.1).length=k:=hk _ (p9 gz.1);exact hu x y ((dT[x]'gz.1)[y]'(by omega)) (by simp[df,gz.1,xp,gz.2]))
        key
       rw[hlen]at this;rw[vF];exact this
     exact trivial
 have cell:∀(n:Nat) (d:D) (u:Value),n<10000->oA rs v n=u->(∀k es,d=.J k es->ru rs n=k)->b3 aN fJ (Tag.own n).R d u->Sat aN bh c3 (d.qT (t0+n)) u:=by
  intro n d u aW bF hk aC;cases d with
  | v x=>
   have e:u=x:=by cases aC;rfl
   subst e;unfold D.qT;split
   ·rename_i h;cases h;exact rfl
   ·rename_i h;cases h;exact rfl
   ·rename_i h;cases h
   ·exact trivial
   exact trivial
  | ptr ds=>exact trivial
  | cl g bk=>exact trivial
  | J k es=>
   refine⟨aC.frame fun b q bR aH=>⟨?_,rfl⟩,?_⟩
   ·simp only[Tag.R]at aH ⊢;rw[hv b (by rw[aH];simp),aH];simp only[De];rw[bD (by simp only[dk];omega)]
   simp only[Tag.et,c3];rw[bq (by omega),show t0+n-t0=n by omega,bF,hk k es rfl]
 have vi:∀(r:Nat) (cw:cR) (y:Value),r<100->(∀ds,cw=.agg ds->ds.length<100)->rs[r]?=some cw->(∀j,j<100->oA rs v (100*r+j)=y.cells.getD j undef)->ng aN fJ r cw y->lc (Sat aN bh c3) (cw.res (t0+100*r)) y:=by
  intro r cw y aC fj Cc bF pt;have ht:∀j,j<100->ru rs (100*r+j)=(match cR.cell j cw with | some (.J k _)=>k | _=>0):=by
   intro j bf;unfold ru;rw[show (100*r+j) / 100=r by omega,show (100*r+j) % 100=j by omega,Cc];rfl
  cases cw with
  | one d=>
   have h1:=pt.qH;have U:=bF 0 (by omega);rw[C9 h1]at U;have:=cell (100*r) d y (by omega) (by simpa using U) (fun k es e=>by
    have:=ht 0 (by omega);rw[o6]at this;rw[this,e];rfl) pt
   exact this
  | agg ds=>
   obtain⟨vs,rfl,aW,bf⟩:=pt;refine⟨vs,rfl,by rw[AB];exact aW,fun j l al=>?_⟩;rw[Dc,ca]at al;obtain⟨d,aE,rfl⟩:=al;obtain⟨u,hu,Cd⟩:=bf j d aE;have jG:j<100:=by
    have:=(ga.1 aE).1;have:=fj ds rfl;omega
   refine⟨u,hu,?_⟩;have:=cell (100*r+j) d u (by omega) (by rw[bF j jG];simp[Value.cells,fc,hu]) (fun k es e=>by
    rw[ht j jG];simp only[cR.cell,aE,e]) Cd
   rw[show t0+100*r+(0+j)=t0+(100*r+j) by omega];exact this
 simp only[wm,cu,cj]at eo;have fj:∀(r:Nat) (cw:cR),rs[r]?=some cw->∀ds,cw=.agg ds->ds.length<100:=by
  intro r cw aC ds e;have:=gn.1 eo.2 cw (gj aC);subst e;simpa using this
 have SB:∀b,ω b≠.bP->w0.FZ b:=fun b h=>(a6.owned b h).1
 have Sn:∀b,gu ao ω b≠.bP->ω b≠.bP:=fun b h e=>h (ry b e)
 refine⟨bh,c3,a6.dc _ e8 ?_ ?_ (fun id b dm=>zF id b dm) ?_ (fun s ao=>by simp only[c3];rw[bD (by omega)]),?_⟩
 ·refine⟨aw.os.trans a6.below.os,aw.tape.trans a6.below.tape,aw.output.trans a6.below.output,nD a6.below.size aw.size,fun k hk ay=>?_,fun ao=>nD (a6.below.drawn ao) (aw.drawn ao),aw.laid,a6.below.free⟩;have ub:k<w.heap.size:=Bb hk a6.below.size;have hi:gu ao ω k=.bP:=by
   cases e:gu ao ω k with
   | bP=>rfl
   | _=>
    have:=SB k (Sn k (by rw[e];simp));rcases this with h | h
    ·omega
    exact absurd h ay
  exact (hblk k ub hi).trans (a6.below.block k hk ay)
 ·intro b gH;by_cases ai:b<w.heap.size/\gu ao ω b=.bP
  ·rw[hold b ai.1 ai.2]at gH;have U:ω b≠.bP:=fun e=>by rw[e]at gH;exact gH rfl
   obtain⟨aA,arr,ty,aJ⟩:=a6.owned b U;exact⟨aA,arr,ty,(hblk b ai.1 ai.2).trans aJ⟩
  have U:fJ b≠.bP:=fun e=>by
   simp only[bh]at gH;rw[bD ai,e]at gH;exact gH rfl
  obtain⟨_,arr,ty,aJ⟩:=mr b U;refine⟨?_,arr,ty,aJ⟩;rcases q2 b w.heap.size with bR | qp
  ·exact SB b (Sn b fun e=>ai ⟨bR,e⟩)
  exact .inl (by have:=a6.below.size;omega)
 ·intro id b dm;by_cases ai:b<w.heap.size/\gu ao ω b=.bP
  ·rw[hold b ai.1 ai.2]at dm;cases e:ω b with
   | bP=>rw[e]at dm;cases dm
   | box i=>rw[e]at dm;exact dm
   | tok s q=>rw[e]at dm;simp only[pO]at dm;split at dm<;>cases dm
  simp only[bh]at dm;rw[bD ai]at dm;cases e:fJ b with
  | bP=>rw[e]at dm;cases dm
  | box i=>rw[e]at dm;cases dm
  | tok s q=>
   rw[e]at dm;simp only[De]at dm;split at dm
   ·split at dm<;>cases dm
   cases dm
 cases rs with
 | nil=>
  obtain⟨vs,rfl,aW,_⟩:=l4;exact⟨vs,rfl,aW,fun i a ah=>by simp[rY]at ah⟩
 | cons cw rest=>
  cases rest with
  | nil=>
   have:=vi 0 cw v (by omega) (fj 0 cw rfl) rfl (fun j bf=>by
    unfold oA;simp only[Nat.mul_zero,dX];rw[ER bf]) l4
   exact this
  | cons RE rest=>
   obtain⟨vs,rfl,aW,bF⟩:=l4;refine⟨vs,rfl,by rw[F6];exact aW,fun i a ah=>?_⟩;rw[Gw,ca]at ah;obtain⟨pc,h1,rfl⟩:=ah;obtain⟨y,bu,BW⟩:=bF i pc h1;have kv:i<100:=by
    have:=(ga.1 h1).1;omega
   refine⟨y,bu,?_⟩;have:=vi i pc y kv (fj i pc h1) h1 (fun j bf=>by
    unfold oA;simp only;rw[show (100*i+j) / 100=i by omega,show (100*i+j) % 100=j by omega];simp[fc,bu]) BW
   rw[dX];exact this
end Go.Sx
namespace Go.Sx
open Go.RowKit
variable{w:World}{ω:Own}{τ:Nat->Nat×Value}{ao:List dB}{l:aG}{d:D}{y:Value}
theorem UK(h:l.hb=some d)(hm:l.qE ao=false)(dr:Sat w ω τ l y):b3 w (gu ao ω) Tag.free.R d y:=by
 have ry:∀b,ω b=.bP->gu ao ω b=.bP:=fun b h=>by simp only[gu,h]
 have kX:∀b s q,ω b=.tok s q->tz ao s=false->gu ao ω b=.bP:=fun b s q h U=>by simp only[gu,h,M9 U]
 have tag:∀(g:Tag) (b:Nat) (q:List (Nat×Nat)),g.oJ ao=false->g.R q (ω b)->gu ao ω b=.bP:=by
  intro g b q ay aH;cases g with
  | free=>exact ry b aH
  | own s=>exact kX b s q aH ay
  | ro s=>
   rcases aH with h | ⟨ee,h⟩
   ·exact ry b h
   exact kX b s ee h ay
 cases l with
 | cp=>cases h
 | v x=>
  simp only[aG.hb]at h;split at h
  ·simp only[aZ]at h;subst h;have:y=x:=dr;subst this;exact .v _ _ ‹_›
  cases h
 | bg c=>
  simp only[aG.hb,aZ]at h;subst h;have:y=.bool c:=dr;subst this;exact .v _ _ rfl
 | J t k es=>simp only[aG.hb,aZ]at h;subst h;exact dr.1.frame fun b q _ aH=>⟨tag t b q hm aH,rfl⟩
 | ptr=>cases h
 | ep=>cases h
 | hq=>cases h
 | fP=>cases h
 | hY ds off=>
  simp only[aG.hb]at h;split at h
  ·rename_i a8;subst a8;simp only[aZ]at h;subst h;obtain⟨b,rfl,aC⟩:=dr;exact aC.frame fun b q _ aH=>⟨ry b aH,rfl⟩
  cases h
 | fd dQ=>simp only[aG.hb,aZ]at h;subst h;exact b3.frame dr fun b q _ aH=>⟨ry b aH,rfl⟩
 | dC t k es=>simp only[aG.hb,aZ]at h;subst h;exact b3.frame dr.1 fun b q _ aH=>⟨ry b aH,rfl⟩
 | aR t i j k es m=>
  obtain⟨u,hu,aC,_⟩:=dr;cases m with
  | at_ x z=>cases h
  | here=>simp only[aG.hb,aZ]at h;subst h;have:y=u:=hu;subst this;exact aC.frame fun b q _ aH=>⟨kX b t _ aH hm,rfl⟩
  | mS=>simp only[aG.hb,aZ]at h;subst h;have:y=u:=hu;subst this;exact aC.frame fun b q _ aH=>⟨kX b t _ aH hm,rfl⟩
variable{bs:mP}
theorem UL(aw:xE w ω τ bs){id b:Nat}(h:y7 bs id=some d)(hm:(match dK id bs with | some ls=>ls.any (aG.qE ao) | none=>true)=false)(a8:ω b=.box id):
  b3 w (gu ao ω) Tag.free.R d (ptrTo b):=by
 unfold y7 at h;cases e:dK id bs with
 | none=>simp[e]at h
 | some ls=>
  rw[e]at hm;simp only[fx,wZ]at hm;simp only[e,q0,ca]at h;obtain⟨ds,h1,rfl⟩:=h;obtain⟨dE,arr,ty,eE,hu,bO,dr⟩:=aw id ls e;have:=hu b a8;subst this;obtain⟨U,aA⟩:=oR h1;have cell:∀j d,ds[j]?=some d->arr[j]?=some (arr.getD j undef)/\b3 w (gu ao ω) Tag.free.R d (arr.getD j undef):=by
   intro j d aE;obtain⟨l,al,c4⟩:=aA j d aE;obtain⟨u,hd,fG⟩:=dr.2 j l al;have e2:arr.getD j undef=u:=by simp[fc,hd]
   rw[e2];exact⟨hd,UK c4 (hm l (gj al)) fG⟩
  exact b3.ptr _ ds b arr ty (0,0) (fun j=>arr.getD j undef) bO (by show gu ao ω b=.bP;simp only[gu,a8]) (by have:=dr.1;omega) (fun j d aE=>(cell j d aE).1) (fun j d aE=>(cell j d aE).2.frame fun _ _ _ h=>⟨h,rfl⟩)
theorem aAC(aw:xE w ω τ bs)(h:l.kO bs=some d)(hm:l.oJ bs ao=false)(dr:Sat w ω τ l y):
  b3 w (gu ao ω) Tag.free.R d y:=by
 unfold aG.kO at h;split at h
 ·rename_i id off;split at h
  ·rename_i a8;subst a8;obtain⟨b,h1,rfl⟩:=dr;exact UL aw h hm h1
  cases h
 ·rename_i g ids;rw[ca]at h;obtain⟨ds,h1,rfl⟩:=h;obtain⟨pf,rfl,aW,hi⟩:=dr;obtain⟨U,aA⟩:=oR h1;simp only[aG.oJ,fx,wZ]at hm;have cell:∀j d,ds[j]?=some d->(pf.map ptrTo).toArray[j]?=some ((pf.map ptrTo).toArray.getD j undef)/\b3 w (gu ao ω) Tag.free.R d ((pf.map ptrTo).toArray.getD j undef):=by
   intro j d aE;obtain⟨id,hB,Kh⟩:=aA j d aE;obtain⟨b,hs,hS⟩:=hi j id hB;have e1:(pf.map ptrTo).toArray[j]?=some (ptrTo b):=by simp[hs]
   have e2:(pf.map ptrTo).toArray.getD j undef=ptrTo b:=by rw[fc,e1];rfl
   rw[e2];exact⟨e1,UL aw Kh (hm id (gj hB)) hS⟩
  exact b3.cl _ g ds _ (fun j=>(pf.map ptrTo).toArray.getD j undef) (by simp;omega) (fun j d aE=>(cell j d aE).1) (fun j d aE=>(cell j d aE).2.frame fun _ _ _ h=>⟨h,rfl⟩)
 rename_i sM aep;have B5:l.qE ao=false:=by
  unfold aG.oJ at hm;split at hm
  ·exact absurd rfl (sM _ _)
  ·exact absurd rfl (aep _ _)
  exact hm
 exact UK h B5 dr
structure acF (w:World) (ω:Own) (τ:Nat->Nat×Value) (ao:List dB) (i j:Nat) (c:eM) (ag:List dB) (y:Value):Prop where
 gc:w5 w (gu ao ω) (fy i j) c y
 at_:∀h∈ag,h.i=i/\h.j=j/\EW w ω τ h y/\c=.e5 h.k h.es h.post
 one:y.oneCell'=true
variable{i:Nat}
theorem Na(bY:pP ao=true)(aw:xE w ω τ bs){j:Nat}{m:q5}{c:eM}{ag:List dB}{rx:List aG}
  (h:y9 bs i j m l=some (c,ag,rx)) (kc:∀x∈ag,x∈ao) (zy:∀x∈rx,x.oJ bs ao=false) (dr:Sat w ω τ l y):acF w ω τ ao i j c ag y:=by
 unfold y9 at h;split at h
 ·rw[ca]at h;obtain⟨d,h1,h⟩:=h;simp only[bL]at h;obtain⟨rfl,rfl,rfl⟩:=h;have:=aAC aw h1 (zy _ (by simp)) dr;exact⟨this,fun x ag=>by simp at ag,this.qH⟩
 ·rename_i post t k es;simp only[aZ,bL]at h;obtain⟨rfl,rfl,rfl⟩:=h;have sK:=kc _ (h2);refine⟨dr.1.frame fun b q _ aH=>⟨?_,rfl⟩,fun x ag=>?_,dr.1.qH⟩
  ·simp only[Tag.R]at aH ⊢;simp only[gu,aH];have:=M8 (t:=t) (q:=q) (ee:=q) bY sK (UG ⟨i,j,t,none,k,es,post⟩ q);simp only[this]
  simp only[List.mem_singleton]at ag;subst ag;exact⟨rfl,rfl,⟨dr.1.frame fun b q _ aH=>⟨aH,rfl⟩,fun _=>dr.2,fun a b e=>by cases e⟩,rfl⟩
 ·rename_i post t a b k es;simp only[aZ,bL]at h;obtain⟨rfl,rfl,rfl⟩:=h;have sK:=kc _ (h2);obtain⟨fo,sO,dr⟩:=dr;have:y=fo:=sO;subst this;refine⟨dr.1.frame fun c q _ aH=>⟨?_,rfl⟩,fun x ag=>?_,dr.1.qH⟩
  ·simp only[Tag.R]at aH ⊢;simp only[gu,aH];have:=M8 (t:=t) (q:=(a,b)::q) (ee:=q) bY sK (UG ⟨i,j,t,some (a,b),k,es,post⟩ q);simp only[this]
  simp only[List.mem_singleton]at ag;subst ag;refine⟨rfl,rfl,⟨dr.1.frame fun b q _ aH=>⟨aH,rfl⟩,fun e=>(by cases e),fun cQ dE e=>?_⟩,rfl⟩;simp only[aZ,bL]at e;obtain⟨rfl,rfl⟩:=e;exact dr.2 rfl
 cases h
theorem UM:∀{ms:List q5} {ls:List aG} {j:Nat} {cs:List eM} {ag:List dB} {rx:List aG},qN bs i j ms ls=some (cs,ag,rx)->cs.length=ls.length
 | [],[],j,cs,ag,rx,h=>by simp only[qN,aZ,bL]at h;obtain⟨rfl,_,_⟩:=h;rfl
 | m::ms,l::ls,j,cs,ag,rx,h=>by
  simp only[qN]at h;split at h
  ·rename_i c h1 bC RR mw A0 e1 e2;simp only[aZ,bL]at h;obtain⟨rfl,_,_⟩:=h;simp[UM e2]
  cases h
 | [],_::_,j,cs,ag,rx,h=>by simp[qN]at h
 | _::_,[],j,cs,ag,rx,h=>by simp[qN]at h
theorem UN:∀{ms:List q5} {ls:List aG} {j:Nat} {cs:List eM} {ag:List dB} {rx:List aG},qN bs i j ms ls=some (cs,ag,rx)->
  (∀(x:Nat) (c:eM),cs[x]?=some c->∃l m h1 bC,ls[x]?=some l/\y9 bs i (j+x) m l=some (c,h1,bC)/\(∀z∈h1,z∈ag)/\(∀z∈bC,z∈rx))/\
  (∀h∈ag,∃(x:Nat) (c:eM) (l:aG) (m:q5) (h1:List dB) (bC:List aG),cs[x]?=some c/\ls[x]?=some l/\y9 bs i (j+x) m l=some (c,h1,bC)/\h∈h1/\(∀z∈h1,z∈ag)/\(∀z∈bC,z∈rx))
 | [],[],j,cs,ag,rx,h=>by
  simp only[qN,aZ,bL]at h;obtain⟨rfl,rfl,rfl⟩:=h;exact⟨fun x c ai=>by simp at ai,fun h bO=>by simp at bO⟩
 | m::ms,l::ls,j,cs,ag,rx,h=>by
  simp only[qN]at h;split at h
  ·rename_i c h1 bC RR mw A0 e1 e2;simp only[aZ,bL]at h;obtain⟨rfl,rfl,rfl⟩:=h;obtain⟨cA,bm⟩:=UN e2;refine⟨fun x kP ai=>?_,fun z bb=>?_⟩
   ·cases x with
    | zero=>
     simp only[lY,aZ]at ai;subst ai;exact⟨l,m,h1,bC,rfl,e1,fun z bb=>hJ _ bb,fun z bb=>hJ _ bb⟩
    | succ x=>
     obtain⟨hf,kh,U,b2,g1,g2,g3,g4⟩:=cA x kP (by simpa using ai);exact⟨hf,kh,U,b2,by simpa using g1,by rw[show j+(x+1)=j+1+x by omega];exact g2,fun z bb=>iN _ (g3 z bb),fun z bb=>iN _ (g4 z bb)⟩
   rcases hM.1 bb with bb | bb
   ·exact⟨0,c,l,m,h1,bC,rfl,rfl,e1,bb,fun z bb=>hJ _ bb,fun z bb=>hJ _ bb⟩
   obtain⟨x,kP,hf,kh,U,b2,g0,g1,g2,g5,g3,g4⟩:=bm z bb;exact⟨x+1,kP,hf,kh,U,b2,by simpa using g0,by simpa using g1,by rw[show j+(x+1)=j+1+x by omega];exact g2,g5,fun z bb=>iN _ (g3 z bb),fun z bb=>iN _ (g4 z bb)⟩
  cases h
 | [],_::_,j,cs,ag,rx,h=>by simp[qN]at h
 | _::_,[],j,cs,ag,rx,h=>by simp[qN]at h
structure acE (w:World) (ω:Own) (τ:Nat->Nat×Value) (ao:List dB) (i:Nat) (fe:GA) (ag:List dB) (y:Value):Prop where
 ac9:RA w (gu ao ω) i fe y
 at_:∀h∈ag,h.i=i/\EW w ω τ h (cellOf y h.j)/\fe.cell h.j=some (.e5 h.k h.es h.post)
theorem TZ(bY:pP ao=true)(aw:xE w ω τ bs){ms:List q5}{p:aI}{fe:GA}{ag:List dB}{rx:List aG}
  (h:Bm bs i ms p=some (fe,ag,rx)) (kc:∀x∈ag,x∈ao) (zy:∀x∈rx,x.oJ bs ao=false) (dr:cW (Sat w ω τ) p y):acE w ω τ ao i fe ag y:=by
 unfold Bm at h;split at h
 ·rename_i l;split at h
  ·rename_i m;rw[ca]at h;obtain⟨⟨c,h1,bC⟩,e,h⟩:=h;simp only[bL]at h;obtain⟨rfl,rfl,rfl⟩:=h;have:=Na bY aw e kc zy dr;refine⟨this.gc,fun x ag=>?_⟩;obtain⟨e1,e2,ch,dS⟩:=this.at_ x ag;have ac5:cellOf y x.j=y:=by rw[e2,cellOf,C9 this.one];rfl
   rw[ac5];exact⟨e1,ch,by simp[GA.cell,e2,dS]⟩
  cases h
 ·rename_i ls;rw[ca]at h;obtain⟨⟨cs,h1,bC⟩,e,h⟩:=h;simp only[bL]at h;obtain⟨rfl,rfl,rfl⟩:=h;obtain⟨us,rfl,aW,hu⟩:=dr;obtain⟨cA,bm⟩:=UN e;refine⟨⟨us,rfl,by rw[UM e];exact aW,fun x c ai=>?_⟩,fun z bb=>?_⟩
  ·obtain⟨l,m,U,b2,g1,g2,g3,g4⟩:=cA x c ai;obtain⟨u,hd,fG⟩:=hu x l g1;rw[dX]at g2;exact⟨u,hd,(Na bY aw g2 (fun z bb=>kc z (g3 z bb)) (fun z bb=>zy z (g4 z bb)) fG).gc⟩
  obtain⟨x,c,l,m,U,b2,g0,g1,g2,g5,g3,g4⟩:=bm z bb;obtain⟨u,hd,fG⟩:=hu x l g1;rw[dX]at g2;obtain⟨e1,e2,ch,dS⟩:=(Na bY aw g2 (fun z bb=>kc z (g3 z bb)) (fun z bb=>zy z (g4 z bb)) fG).at_ z g5;refine⟨e1,?_,by simp only[GA.cell,e2,g0,dS]⟩;have:cellOf (.agg us) z.j=u:=by simp[cellOf,Value.cells,e2,fc,hd]
  rw[this];exact ch
 cases h
theorem T0:∀{LG:List (List q5)} {cz:List aI} {i:Nat} {gs:List GA} {ag:List dB} {rx:List aG},xb bs i LG cz=some (gs,ag,rx)->gs.length=cz.length/\
  (∀(x:Nat) (fe:GA),gs[x]?=some fe->∃p ms h1 bC,cz[x]?=some p/\Bm bs (i+x) ms p=some (fe,h1,bC)/\(∀z∈h1,z∈ag)/\(∀z∈bC,z∈rx))/\
  (∀h∈ag,∃(x:Nat) (fe:GA) (p:aI) (ms:List q5) (h1:List dB) (bC:List aG),gs[x]?=some fe/\cz[x]?=some p/\Bm bs (i+x) ms p=some (fe,h1,bC)/\h∈h1/\(∀z∈h1,z∈ag)/\(∀z∈bC,z∈rx))
 | [],[],i,gs,ag,rx,h=>by
  simp only[xb,aZ,bL]at h;obtain⟨rfl,rfl,rfl⟩:=h;exact⟨rfl,fun x c ai=>by simp at ai,fun h bO=>by simp at bO⟩
 | m::ms,l::ls,i,gs,ag,rx,h=>by
  simp only[xb]at h;split at h
  ·rename_i c h1 bC RR mw A0 e1 e2;simp only[aZ,bL]at h;obtain⟨rfl,rfl,rfl⟩:=h;obtain⟨dw,cA,bm⟩:=T0 e2;refine⟨by simp[dw],fun x kP ai=>?_,fun z bb=>?_⟩
   ·cases x with
    | zero=>
     simp only[lY,aZ]at ai;subst ai;exact⟨l,m,h1,bC,rfl,e1,fun z bb=>hJ _ bb,fun z bb=>hJ _ bb⟩
    | succ x=>
     obtain⟨hf,kh,U,b2,g1,g2,g3,g4⟩:=cA x kP (by simpa using ai);exact⟨hf,kh,U,b2,by simpa using g1,by rw[show i+(x+1)=i+1+x by omega];exact g2,fun z bb=>iN _ (g3 z bb),fun z bb=>iN _ (g4 z bb)⟩
   rcases hM.1 bb with bb | bb
   ·exact⟨0,c,l,m,h1,bC,rfl,rfl,e1,bb,fun z bb=>hJ _ bb,fun z bb=>hJ _ bb⟩
   obtain⟨x,kP,hf,kh,U,b2,g0,g1,g2,g5,g3,g4⟩:=bm z bb;exact⟨x+1,kP,hf,kh,U,b2,by simpa using g0,by simpa using g1,by rw[show i+(x+1)=i+1+x by omega];exact g2,g5,fun z bb=>iN _ (g3 z bb),fun z bb=>iN _ (g4 z bb)⟩
  cases h
 | [],_::_,i,gs,ag,rx,h=>by simp[xb]at h
 | _::_,[],i,gs,ag,rx,h=>by simp[xb]at h
def F7:List dB->Option (Nat×Nat)
 | []=>none
 | h::r=>match h.p with | some p=>some (h.t,p.1) | none=>F7 r
theorem T1:∀{ao:List dB},F7 ao=none->∀h∈ao,h.p=none
 | [],_,h,bO=>by cases bO
 | x::r,e,h,bO=>by
  simp only[F7]at e;split at e
  ·cases e
  rename_i hp;rcases ev.1 bO with rfl | bO
  ·exact hp
  exact T1 e h bO
def Dg(a:Nat):List dB->List Prop
 | []=>[]
 | h::r=>match h.p with | some p=>(p.1=a)::Dg a r | none=>Dg a r
theorem Nb{a:Nat}:∀{ao:List dB},cO (Dg a ao)->∀h∈ao,∀p,h.p=some p->p.1=a
 | [],_,h,bO,_,_=>by cases bO
 | x::r,a8,h,bO,p,hp=>by
  simp only[Dg]at a8;split at a8
  ·rename_i q aH;rcases ev.1 bO with rfl | bO
   ·rw[hp]at aH;rw[gO aH];exact a8.1
   exact Nb a8.2 h bO p hp
  rename_i aH;rcases ev.1 bO with rfl | bO
  ·rw[hp]at aH;cases aH
  exact Nb a8 h bO p hp
def Nc(st:aD)(ao:List dB)(src:Nat)(ds:List D):Option (Nat×Nat×List (List D)×List Prop):=
 match F7 ao with
 | none=>some (0,0,[],[])
 | some (t,a)=>
  match (st.env.getD src .cp).leaf with
  | some (.J (.own s) k es)=>
   if s=t/\ds.length=k/\ao.all (fun h=>match h.p with | some _=>h.t==t&&h.post.isSome | none=>true)=true then
    some (t,k,es.set a (nY ao ds),(es[a]?=some ds)::Dg a ao)
   else none
  | _=>none
theorem aAD{w0:eT}{st:aD}{a:Act}(a6:cM w0 st a w ω τ){src:Nat}{ds:List D}{t k:Nat}{es:List (List D)}{obs:List Prop}
  (h:Nc st ao src ds=some (t,k,es,obs)) (a8:cO obs):RD w ω τ ao t k es:=by
 unfold Nc at h;split at h
 ·rename_i aW;exact⟨fun x ag p hp _=>by rw[T1 aW x ag]at hp;cases hp⟩
 rename_i dx cQ bI;split at h
 ·rename_i s ck cC al;split at h
  ·rename_i ai;obtain⟨rfl,rr,h9⟩:=ai;simp only[aZ,bL]at h;obtain⟨rfl,rfl,rfl,rfl⟩:=h;rw[gn]at h9;refine⟨fun x ag p hp _=>?_⟩;have nQ:∃y,Sat w ω τ (.J (.own s) ck cC) y:=by
    rw[ly]at al;cases e:st.env[src]? with
    | none=>rw[e]at al;simp[aI.leaf]at al
    | some p=>
     rw[e]at al;obtain⟨v,_,U⟩:=a6.env src p e;exact⟨v,aI.dU al U⟩
   obtain⟨y,bu⟩:=nQ;refine⟨cC,y,ds,cQ,bu,a8.1,rr,rfl,fun z bb q aH=>?_⟩;have h1:=h9 z bb;simp only[aH,cu,kq,sj]at h1;exact⟨h1.1,Nb a8.2 z bb q aH,h1.2⟩
  cases h
 cases h
def Nd(P:Program)(st:aD)(d:Option Nat)(f:FuncId)(args:List Operand)(ans:List cf):Option (aD×List cf×List Prop):=
 match ans with
 | .qS xy src ds rs::r=>
  match xb st.boxes 0 xy (args.map st.bt) with
  | some (gs,ao,qU)=>
   match Nc st ao src ds with
   | some (iC,pF,q',obs)=>
    let t0:=10000*(d.getD 0+1)
    if fX P f=true/\wm rs=true/\t0+10000<=dk/\pP ao=true/\qU.all (fun l=>!(l.oJ st.boxes ao))=true/\ao.all (fun h=>!(decide (t0<=h.t)&&decide (h.t<t0+10000)))=true then
     let bG:=st.map (tg ao t0 iC pF q')
     match d with
     | some d=>some (⟨bG.env.set d (uZ t0 rs),bG.boxes⟩,r,ks P f gs rs::obs)
     | none=>some (bG,r,ks P f gs rs::obs)
    else none
   | none=>none
  | none=>none
 | _=>none
theorem aAE{P:Program}{w0:eT}{st bG:aD}{a:Act}{dst:Option Nat}{f:FuncId}{args:Array Operand}{ts:Array TypeId}{type:TypeId}{pos:String}{after:Array Edge}{guard:Option (Nat×Bool)}{ans cv:List cf}{obs:List Prop}
  (a6:cM w0 st a w ω τ) (h:Nd P st dst f args.toList ans=some (bG,cv,obs)) (a8:cO obs) {K:Act->World->Prop} {Q:Exit->Act->World->Prop} (iv:∀cQ aN,Rel w0 bG cQ aN->K cQ aN):
  Oper.wp P ⟨dst,.call ⟨.value (.func f),args,ts⟩,type,pos,after,guard⟩ a w K Q:=by
 unfold Nd at h;split at h
 ·rename_i xy src ds rs r;split at h
  ·rename_i gs ao qU nP;split at h
   ·rename_i iC pF q' gC kc;simp only at h;split at h
    ·rename_i ai;obtain⟨j8,eo,jK,bY,FM,zx⟩:=ai;rw[gn]at FM zx;have Cb:∀l∈qU,l.oJ st.boxes ao=false:=fun l al=>by simpa using FM l al
     have aeJ:∀h∈ao,¬(10000*(dst.getD 0+1)<=h.t/\h.t<10000*(dst.getD 0+1)+10000):=fun h bO=>by
      have:=zx h bO;simp only[gp,Bool.and_eq_false_iff,kK]at this;omega
     obtain⟨hlen,cA,bm⟩:=T0 nP;have hD:∀(x:Nat) (p:aI),(args.toList.map st.bt)[x]?=some p->∃v,(args.map a.eval)[x]?=some v/\cW (Sat w ω τ) p v:=by
      intro x p hp;rw[dI,ca]at hp;obtain⟨o,h1,rfl⟩:=hp;refine⟨a.eval o,?_,a6.bt o⟩;rw[aEy];rw[mN]at h1;rw[h1];rfl
     have adR:Jt w (gu ao ω) gs (args.map a.eval):=by
      refine⟨fun b aw=>?_,by simp[hlen],fun x fe ag=>?_⟩
      ·have di:ω b≠.bP:=fun e=>aw (by simp only[gu,e])
       obtain⟨_,arr,ty,aJ⟩:=a6.owned b di;refine⟨?_,arr,ty,aJ⟩;simp only[gu]at aw ⊢;cases e:ω b with
       | bP=>simp[e]at aw
       | box id=>simp[e]at aw
       | tok t q=>
        simp only[e]at aw ⊢;cases e2:oo t q ao with
        | none=>simp[e2]at aw
        | some z=>
         obtain⟨g,ee⟩:=z;obtain⟨y,_,_,rfl⟩:=Dd e2;exact⟨_,ee,rfl,by simp[fy]⟩
      obtain⟨p,ms,h1,bC,g1,g2,g3,g4⟩:=cA x fe ag;obtain⟨v,bF,xr⟩:=hD x p g1;rw[dX]at g2;exact⟨v,bF,(TZ bY a6.boxes g2 g3 (fun z bb=>Cb z (g4 z bb)) xr).ac9⟩
     have sD:∀h∈ao,EW w ω τ h (cellOf ((args.map a.eval).getD h.i undef) h.j)/\∃fe,gs[h.i]?=some fe/\fe.cell h.j=some (.e5 h.k h.es h.post):=by
      intro h bO;obtain⟨x,fe,p,ms,h1,bC,g0,g1,g2,g5,g3,g4⟩:=bm h bO;obtain⟨v,bF,xr⟩:=hD x p g1;rw[dX]at g2;obtain⟨e1,e2,ch⟩:=(TZ bY a6.boxes g2 g3 (fun z bb=>Cb z (g4 z bb)) xr).at_ h g5;have bt:(args.map a.eval).getD h.i undef=v:=by rw[e1,fc,bF];rfl
      rw[bt];exact⟨e2,fe,by rw[e1];exact g0,ch⟩
     have fU:(execOp a.eval ⟨dst,.call ⟨.value (.func f),args,ts⟩,type,pos,after,guard⟩).run P w=.ok (.enter f (args.map a.eval)) w:=by
      unfold fX at j8;split at j8
      ·rename_i fn lG;simp only[cu,gp,yU,lZ]at j8;have rn:fn.body≠none:=by intro e;rw[e]at j8;simp at j8
       simp[execOp,resolve,Act.eval,Deferred.ofValue,invoke,callFunc,lG,j8.1,rn]
      cases j8
     have key:ks P f gs rs->cO gC->(∀v aN bh c3,cM w0 (st.map (tg ao (10000*(dst.getD 0+1)) iC pF q')) a aN bh c3->cW (Sat aN bh c3) (uZ (10000*(dst.getD 0+1)) rs) v->K (a.put dst v) aN)->
       Oper.wp P ⟨dst,.call ⟨.value (.func f),args,ts⟩,type,pos,after,guard⟩ a w K Q:=by
      intro KK KC R5;unfold Oper.wp;rw[fU];simp only[Oper.upon];refine (KK w _ _ adR (a6.tidy fun b aw=>by simp only[gu,aw])).mono ?_;rintro e aN ⟨v,rfl,l3,fJ,c1,c2,cP,eI⟩;obtain⟨bh,c3,h1,U⟩:=a6.acU (10000*(dst.getD 0+1)) bY eo jK aeJ l3 fJ c1 c2 eI (fun h=>cellOf ((args.map a.eval).getD h.i undef) h.j)
       (fun h bO cC he=>by
        obtain⟨_,fe,g1,g2⟩:=sD h bO;rw[he]at g2;exact cP h.i h.j fe h.k h.es cC g1 g2)
       (fun h bO=>(sD h bO).1) (aAD a6 kc KC)
      exact R5 v aN bh c3 h1 U
     cases dst with
     | none=>
      simp only[aZ,bL]at h;obtain⟨rfl,_,rfl⟩:=h;exact key a8.1 a8.2 fun v aN bh c3 h1 _=>iv _ _ ⟨bh,c3,h1⟩
     | some d=>
      simp only[aZ,bL]at h;obtain⟨rfl,_,rfl⟩:=h;exact key a8.1 a8.2 fun v aN bh c3 h1 U=>iv _ _ ⟨bh,c3,h1.put U⟩
    cases h
   cases h
  cases h
 cases h
