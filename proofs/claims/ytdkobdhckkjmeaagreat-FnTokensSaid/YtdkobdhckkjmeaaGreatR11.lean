import Derived.Test.YtdkobdhckkjmeaaGreatR6
set_option linter.unusedVariables false
set_option linter.unusedSimpArgs false
namespace Go.Sx
open Go.RowKit
def qeN(t:Nat)(ms:Moves)(k:Nat)(es':List (List D)):Leaf→Leaf
 | .sl (.own s) k' es=>if s=t then .sl (.own t) k es' else if (ms.at s).isSome then .und else .sl (.own s) k' es
 | .ep (.own s) k' es i j=>if s=t then .ep (.own t) k es' i j else if (ms.at s).isSome then .und else .ep (.own s) k' es i j
 | .sl (.ro s) k' es=>if s=t then .und else if (ms.at s).isSome then .und else .sl (.ro s) k' es
 | .ep (.ro s) k' es i j=>if s=t then .und else if (ms.at s).isSome then .und else .ep (.ro s) k' es i j
 | .sn s a b k0 es0 m=>if s=t then .und else if (ms.at s).isSome then .und else .sn s a b k0 es0 m
 | .np _ _=>.und
 | l=>l
def qce(t:Nat)(ms:Moves):Owner→Owner
 | .tok s q=>if s=t then .tok s q else match ms.at s with | some p=>.tok t (p::q) | none=>.tok s q
 | o=>o
theorem qiL{t:Nat}{ms:Moves}{o:Owner}{id:Nat}:qce t ms o=.box id↔o=.box id:=by
 cases o with
 | imm=>simp[qce]
 | box i=>simp[qce]
 | tok s q=>
  simp only[qce];split
  ·simp
  ·split<;>simp
theorem qu3{t:Nat}{ms:Moves}{o:Owner}:qce t ms o=.imm↔o=.imm:=by
 cases o with
 | imm=>simp[qce]
 | box i=>simp[qce]
 | tok s q=>
  simp only[qce];split
  ·simp
  ·split<;>simp
theorem qk2{es:List (List D)}{i:Nat}{ds:List D}{x j:Nat}(hi:i<es.length):qan (es.set i ds) x j=if x=i then ds[j]? else qan es x j:=by
 unfold qan;rw[zad];by_cases h:i=x
 ·subst h;rw[zp rfl,zp hi,zp rfl];rfl
 ·rw[zo h,zo (Ne.symm h)]
def blitD(ds:List D)(off:Nat)(xs:List D):List D:=ds.take off++(xs++ds.drop (off+xs.length))
theorem qol{ds xs:List D}{off i:Nat}(h:off+xs.length≤ds.length):(blitD ds off xs)[i]?=if off≤i∧i<off+xs.length then xs[i-off]? else ds[i]?:=by
 unfold blitD;rw[zT,zay,Nat.min_eq_left (by omega)];by_cases h1:i<off
 ·rw[zp h1,zo (by omega),zF,zp h1]
 ·rw[zo h1,zT];by_cases h2:i-off<xs.length
  ·rw[zp h2,zp (by omega)]
  ·rw[zo h2,zo (by omega),zA]
   congr 1
   omega
theorem qom{ds xs:List D}{off:Nat}(h:off+xs.length≤ds.length):(blitD ds off xs).length=ds.length:=by
 simp[blitD];omega
def qk3(t:Nat)(ms:Moves):Bool:=ms.all fun x=>x.1≠t&&(match ms.at x.1 with | some p=>p.1==x.2.1&&p.2==x.2.2 | none=>false)
theorem qu4{t:Nat}{ms:Moves}(h:qk3 t ms=true){s:Nat}{p:Nat×Nat}(hm:(s,p)∈ms):s≠t∧ms.at s=some p:=by
 have h1:=zM.1 h _ hm;simp only[zj,zi]at h1;refine⟨h1.1,?_⟩;have h2:=h1.2;split at h2
 ·rename_i q e;simp only[zj,zE]at h2;rw[e,za];exact Prod.ext h2.1 h2.2
 ·cases h2
theorem qk4(i:Nat):∀(xs:List Leaf) (j:Nat),qbQ i j xs=(qbQ 0 j xs).map fun x=>(x.1,(i,x.2.2))
 | [],_=>rfl
 | l::ls,j=>by
  simp only[qbQ];split
  ·simp only[zav,zbr,true_and];exact qk4 i ls (j+1)
  ·exact qk4 i ls (j+1)
theorem qon(i s:Nat):∀ms:Moves,Moves.at s (ms.map fun x=>(x.1,(i,x.2.2)))=(Moves.at s ms).map fun p=>(i,p.2)
 | []=>rfl
 | (a,p)::r=>by
  simp only[zav,Moves.at];split
  ·rfl
  ·exact qon i s r
theorem qk5(i0:Nat):∀(xs:List Leaf) (j s:Nat) (p:Nat×Nat),(s,p)∈qbQ i0 j xs→p.1=i0
 | [],_,_,_,h=>by simp[qbQ]at h
 | l::ls,j,s,p,h=>by
  simp only[qbQ]at h;split at h
  ·rcases zL.1 h with h | h
   ·simp only[zd]at h;rw[h.2]
   ·exact qk5 i0 ls (j+1) s p h
  ·exact qk5 i0 ls (j+1) s p h
theorem qoo{t i j:Nat}{xs:List Leaf}(h:qk3 t (qbQ 0 j xs)=true){s:Nat}{p:Nat×Nat}(hm:(s,p)∈qbQ i j xs):s≠t∧(qbQ i j xs).at s=some p:=by
 have hp:=qk5 i xs j s p hm;rw[qk4]at hm ⊢;obtain⟨⟨s',p'⟩,h1,h2⟩:=zbm.1 hm;simp only[zd]at h2;obtain⟨rfl,h2⟩:=h2;obtain⟨h3,h4⟩:=qu4 h h1;refine⟨h3,?_⟩;rw[qon,h4,←h2];rfl
def SM.flat:SM→Bool
 | .at_ _ _=>false
 | _=>true
def qd3(t:Nat):Nat→List Leaf→Option (List D×List Nat)
 | _,[]=>some ([],[])
 | j,.sn s a b k es m::ls=>if s=t∧b=j∧m.flat=true then (qd3 t (j+1) ls).map fun r=>(.sl k es::r.1,a::r.2) else none
 | j,l::ls=>
  match l.toD,qd3 t (j+1) ls with
  | some d,some r=>some (d::r.1,r.2)
  | _,_=>none
theorem qop{t:Nat}:∀{xs:List Leaf} {j:Nat} {ys:List D} {is:List Nat},qd3 t j xs=some (ys,is)→ys.length=xs.length∧
  ∀(y:Nat) (d:D),ys[y]?=some d→∃l,xs[y]?=some l∧(l.toD=some d∨∃a k es m,l=.sn t a (j+y) k es m∧m.flat=true∧a∈is∧d=.sl k es)
 | [],j,ys,is,h=>by
  simp only[qd3,za,zd]at h;obtain⟨rfl,rfl⟩:=h;exact⟨rfl,fun y d hd=>by simp at hd⟩
 | l::ls,j,ys,is,h=>by
  have fin:∀d0 ys0 is0 is1,ys=d0::ys0→is=is1→(∀a∈is0,a∈is1)→qd3 t (j+1) ls=some (ys0,is0)→(l.toD=some d0∨∃a k es m,l=.sn t a j k es m∧m.flat=true∧a∈is1∧d0=.sl k es)→ys.length=(l::ls).length∧
    ∀(y:Nat) (d:D),ys[y]?=some d→∃x,(l::ls)[y]?=some x∧(x.toD=some d∨∃a k es m,x=.sn t a (j+y) k es m∧m.flat=true∧a∈is∧d=.sl k es):=by
   rintro d0 ys0 is0 is1 rfl rfl hsub hr h0;obtain⟨h1,h2⟩:=qop hr;refine⟨by simp[h1],fun y d hd=>?_⟩;cases y with
   | zero=>
    simp only[zag,za]at hd;subst hd;exact⟨l,rfl,h0⟩
   | succ y=>
    obtain⟨x,hx,h3⟩:=h2 y d (by simpa using hd);refine⟨x,by simpa using hx,?_⟩;rcases h3 with h3 | ⟨a,k,es,m,h4,h5,h6,h7⟩
    ·exact .inl h3
    ·exact .inr ⟨a,k,es,m,by rw[h4,show j+1+y=j+(y+1) by omega],h5,hsub a h6,h7⟩
  have plain:(match l.toD,qd3 t (j+1) ls with | some d,some r=>some (d::r.1,r.2) | _,_=>none)=some (ys,is)→ys.length=(l::ls).length∧
    ∀(y:Nat) (d:D),ys[y]?=some d→∃x,(l::ls)[y]?=some x∧(x.toD=some d∨∃a k es m,x=.sn t a (j+y) k es m∧m.flat=true∧a∈is∧d=.sl k es):=by
   intro h;split at h
   ·rename_i d r e1 e2;simp only[za,zd]at h;exact fin d r.1 r.2 r.2 h.1.symm h.2.symm (fun _ h=>h) e2 (.inl e1)
   ·cases h
  cases l with
  | sn s a b k es m=>
   simp only[qd3]at h;split at h
   ·rename_i hc;obtain⟨rfl,rfl,hm⟩:=hc;rw[zc]at h;obtain⟨⟨r1,r2⟩,e2,h⟩:=h;simp only[zd]at h;exact fin _ r1 r2 (a::r2) h.1.symm h.2.symm (fun _ h=>zg _ h) e2 (.inr ⟨a,k,es,m,rfl,hm,zm,rfl⟩)
   ·cases h
  | _=>exact plain h
theorem qiM{i:Nat}:∀{l:List Nat},Obs (l.map fun a=>a=i)→∀a∈l,a=i
 | [],_,a,h=>by cases h
 | x::l,ho,a,h=>by
  rcases zL.1 h with rfl | h
  ·exact ho.1
  ·exact qiM ho.2 a h
def qk6(P:Program)(st:St)(ty:TypeId)(t k:Nat)(es:List (List D))(i j:Nat)(q:PV)(ans:List Ans):Stepped:=
 match q.leaves,P.info? ty,ans with
 | some xs,some inf,.el ds::r=>
  match qd3 t j xs with
  | some (ys,is)=>
   if xs.length=inf.size∧ds.length=k∧j+ys.length≤k∧qk3 t (qbQ 0 j xs)=true then
    some (st.map (qeN t (qbQ i j xs) k (es.set i (blitD ds j ys))),r,(es[i]?=some ds)::is.map fun a=>a=i)
   else none
  | none=>none
 | _,_,_=>none
theorem RelAt.storeElem{P:Program}{w0:Base}{st st':St}{a:Act}{w:World}{ω:Own}{τ:Nat→Nat×Value}{ty:TypeId}{t k i j:Nat}{es:List (List D)}{q:PV}{v y:Value}{ans ans':List Ans}{obs:List Prop}
  (hrel:RelAt w0 st a w ω τ) (hp:Sat w ω τ (.ep (.own t) k es i j) y) (hq:SatP (Sat w ω τ) q v) (h:qk6 P st ty t k es i j q ans=some (st',ans',obs)) (ho:Obs obs):
  ∃w',(Instr.storeAt ty y v).run P w=.ok () w'∧Rel w0 st' a w':=by
 unfold qk6 at h;split at h
 ·rename_i xs inf ds r e1 e2;split at h
  ·rename_i ys is e3;split at h
   ·rename_i hc;obtain⟨hc1,hc2,hc3,hc4⟩:=hc;simp only[za,zd]at h;obtain⟨rfl,_,rfl⟩:=h;have hds:es[i]?=some ds:=ho.1;obtain⟨hs,hone⟩:=PV.leaves_sat e1 hq;obtain⟨hyl,hyg⟩:=qop e3;have hisi:=qiM ho.2;obtain⟨b,off,cap,rfl,hil,hr,hh⟩:=hp;simp only[Tag.hdr]at hh;cases hr with
    | nil=>simp at hil
    | row R k es b off cap arr tyb fr us hb hR hcap hsz hkk hu hd=>
     have hR':ω b=.tok t []:=hR;obtain⟨hown1,arr0,ty0,hb0⟩:=hrel.owned b (by rw[hR'];simp);rw[hb]at hb0;simp only[za,Obj.cells.injEq]at hb0;obtain⟨rfl,rfl,rfl⟩:=hb0;have hblt:b<w.heap.size:=(zz.1 hb).1;have hmul:(i+1)*k≤cap*k:=zB _ (by omega);rw[zR]at hmul;have hvs:v.cells.size=xs.length:=hs.1;have hfit:off+i*k+j+v.cells.toList.length≤arr.size:=by simp;omega
     have hst:=run_storeCells_at P b (off+i*k+j) tyb v.cells.toList 0 arr w hb (by simpa using hfit) hone;simp only[zbj]at hst;generalize harr:(arr.toList.take (off+i*k+j)++v.cells.toList++arr.toList.drop (off+i*k+j+v.cells.toList.length)).toArray=arr' at hst;have hget:∀x:Nat,arr'[x]?=if off+i*k+j≤x∧x<off+i*k+j+xs.length then v.cells[x-(off+i*k+j)]? else arr[x]?:=by
      intro x;rw[←harr,zY,qg5 (by simpa using hfit)];simp[hvs]
     have hsz':arr'.size=arr.size:=by rw[←harr];simp;simp at hfit;omega
     have hhs:=setRow_heap w b arr arr' tyb (0,0) hb
     let ms:=qbQ i j xs
     let ω':Own:=fun c=>qce t ms (ω c)
     have hmst:ms.at t=none:=by
      cases e:ms.at t with
      | none=>rfl
      | some p=>
       have hmem:∀(ms:Moves) (p:Nat×Nat),ms.at t=some p→(t,p)∈ms:=by
        intro ms;induction ms with
        | nil=>intro p h;cases h
        | cons x ms ih=>
         intro p h;obtain⟨s,p'⟩:=x;simp only[Moves.at]at h;split at h
         ·rename_i hst';subst hst';rw[zx h];exact zm
         ·exact zg _ (ih p h)
       exact absurd rfl (qoo hc4 (hmem ms p e)).1
     have hω:∀c q,c<w.heap.size→ω c=.tok t q→ω' c=.tok t q:=fun c q _ h=>by simp[ω',h,qce]
     have hlow:∀c p q,c<w.heap.size→ω c=.tok t (p::q)→ω' c=.tok t (p::q)∧(w.setRow b arr').heap[c]?=w.heap[c]?:=by
      intro c p q hc hq';exact⟨hω c _ hc hq',setRow_other w b c arr' fun e=>by rw[e,hR']at hq';cases hq'⟩
     have hother:∀(g:Tag) c q,g≠.own t→g≠.ro t→(∀s,g=.own s∨g=.ro s→ms.at s=none)→g.R q (ω c)→g.R q (ω' c)∧(w.setRow b arr').heap[c]?=w.heap[c]?:=by
      intro g c q h1 h2 h3 hq';have hcb:c≠b:=fun e=>by
       rw[e,hR']at hq';cases g with
       | free=>cases hq'
       | own s=>simp only[Tag.R,Owner.tok.injEq]at hq';exact h1 (by rw[hq'.1])
       | ro s=>
        rcases hq' with h | ⟨q',h⟩
        ·cases h
        ·simp only[Owner.tok.injEq]at h;exact h2 (by rw[h.1])
      refine⟨?_,setRow_other w b c arr' hcb⟩;cases g with
      | free=>simp only[Tag.R]at hq' ⊢;simp[ω',hq',qce]
      | own s=>
       simp only[Tag.R]at hq' ⊢;simp only[ω',hq',qce];split
       ·rfl
       ·rw[h3 s (.inl rfl)]
      | ro s=>
       simp only[Tag.R]at hq' ⊢;rcases hq' with h | ⟨q',h⟩
       ·left;simp[ω',h,qce]
       ·right;refine⟨q',?_⟩;simp only[ω',h,qce];split
        ·rfl
        ·rw[h3 s (.inr rfl)]
     have hnewrep:Rep (w.setRow b arr') ω' (Tag.own t).R (.sl k (es.set i (blitD ds j ys))) (.slice (some ⟨b,off,none⟩) es.length cap):=by
      have hlen:(es.set i (blitD ds j ys)).length=es.length:=zn;have hkd:ds.length=k:=hc2;have hcell:∀x y d,qan (es.set i (blitD ds j ys)) x y=some d→∃u,arr'[off+x*k+y]?=some u∧Rep (w.setRow b arr') ω' (fun q=>(Tag.own t).R ((x,y)::q)) d u:=by
       intro x y d hdx;rw[qk2 hil]at hdx;by_cases hx:x=i
       ·subst hx;rw[zp rfl,qol (by omega)]at hdx;split at hdx
        ·rename_i hy;obtain⟨l,hl1,hl2⟩:=hyg _ _ hdx;obtain⟨u,hu1,hu2⟩:=hs.2 _ _ hl1;rcases hl2 with hl2 | ⟨a,k2,es2,m,rfl,hm,hai,rfl⟩
         case inr=>
          have hax:=hisi a hai;subst hax;obtain⟨u0,hu0,hr0,_⟩:=hu2;have e0:u=u0:=by
           cases m with
           | at_ x y=>cases hm
           | here=>exact hu0
           | away=>exact hu0
          subst e0;refine⟨u,?_,hr0.frame fun c q hc hq'=>?_⟩
          ·rw[hget,zp (by omega),←hu1]
           congr 1;omega
          ·rw[show j+(y-j)=y by omega]at hq';exact hlow c _ _ hc hq'
         refine⟨u,?_,?_⟩
         ·rw[hget,zp (by omega),←hu1]
          congr 1;omega
         ·have hmem:∀s,l.tok=some s→ms.at s=some (x,y)∧s≠t:=by
           intro s hs';have:=qk0 x xs j (y-j) l s hl1 hs';rw[show j+(y-j)=y by omega]at this;obtain⟨h1,h2⟩:=qoo hc4 this;exact⟨h2,h1⟩
          cases l with
          | und=>cases hl2
          | v z=>
           simp only[Leaf.toD]at hl2;split at hl2
           ·simp only[za]at hl2;subst hl2;have:u=z:=hu2;subst this;exact .v _ _ ‹_›
           ·cases hl2
          | sb c=>
           simp only[Leaf.toD,za]at hl2;subst hl2;have:u=.bool c:=hu2;subst this;exact .v _ _ rfl
          | ptr=>cases hl2
          | ep=>cases hl2
          | rp=>cases hl2
          | fd=>cases hl2
          | sv=>cases hl2
          | clo=>cases hl2
          | sn=>cases hl2
          | np=>cases hl2
          | sl g k2 es2=>
           cases g with
           | free=>cases hl2
           | ro s=>cases hl2
           | own s=>
            simp only[Leaf.toD,za]at hl2;subst hl2;obtain⟨h1,h2⟩:=hmem s rfl;refine hu2.1.frame fun c q hc hq'=>?_
            simp only[Tag.R]at hq' ⊢;refine⟨?_,setRow_other w b c arr' fun e=>?_⟩
            ·simp only[ω',hq',qce];rw[zo h2,h1]
            ·rw[e,hR']at hq';simp only[Owner.tok.injEq]at hq';exact h2 hq'.1.symm
        ·rename_i hy;have hcd:qan es x y=some d:=by simp[qan,hds,hdx]
         refine⟨us x y,?_,(hd x y d hcd).frame fun c q hc hq'=>hlow c _ _ hc hq'⟩;rw[hget,zo (by omega),hu x y d hcd]
       ·rw[zo hx]at hdx;obtain⟨hxl,hyl'⟩:=qdI hkk hdx;refine⟨us x y,?_,(hd x y d hdx).frame fun c q hc hq'=>hlow c _ _ hc hq'⟩;rw[hget,zo ?_,hu x y d hdx];rcases Nat.lt_or_gt_of_ne hx with h | h
        ·have:(x+1)*k≤i*k:=zB _ h;rw[zR]at this;omega
        ·have:(i+1)*k≤x*k:=zB _ h;rw[zR]at this;omega
      have hrow2:∀e∈es.set i (blitD ds j ys),e.length=k:=by
       intro e he;rcases zbf he with h | rfl
       ·exact hkk e h
       ·rw[qom (by omega)];exact hkd
      have:=Rep.row (w:=w.setRow b arr') (ω:=ω') (Tag.own t).R k (es.set i (blitD ds j ys)) b off cap arr' tyb (0,0) (fun x y=>arr'.getD (off+x*k+y) undef) hhs (hω b [] hblt hR') (by omega) (by omega) hrow2
       (fun x y d hd'=>by obtain⟨u,h1,_⟩:=hcell x y d hd';rw[h1];simp[zl,h1])
       (fun x y d hd'=>by obtain⟨u,h1,h2⟩:=hcell x y d hd';have:arr'.getD (off+x*k+y) undef=u:=(by simp[zl,h1]);rw[this];exact h2)
      rw[hlen]at this;exact this
     have hsat:∀l v,Sat w ω τ l v→Sat (w.setRow b arr') ω' τ (qeN t ms k (es.set i (blitD ds j ys)) l) v:=by
      intro l v hs';have hms:∀s,¬(ms.at s).isSome=true→ms.at s=none:=fun s h=>by
       cases e:ms.at s with
       | none=>rfl
       | some p=>simp[e]at h
      cases l with
      | und=>exact trivial
      | v x=>exact hs'
      | sb c=>exact hs'
      | ptr id o=>
       obtain⟨c,hc,e⟩:=hs';exact⟨c,qiL.2 hc,e⟩
      | sn s a b2 k0 es0 m=>
       simp only[qeN];split
       ·exact trivial
       ·rename_i h1;split
        ·exact trivial
        ·rename_i h2;obtain⟨u,hu,hr2,hm⟩:=hs';have hoth:∀c q,ω c=.tok s q→ω' c=.tok s q∧(w.setRow b arr').heap[c]?=w.heap[c]?:=fun c q hq'=>
          hother (.own s) c q (by simpa using h1) (by simp) (fun s' h=>by
           rcases h with h | h
           ·simp only[Tag.own.injEq]at h;subst h;exact hms _ h2
           ·cases h) hq'
         refine⟨u,hu,hr2.frame fun c q _ hq'=>hoth c _ hq',fun hh2=>?_⟩;obtain⟨kT,c,off2,len2,cap2,arr2,ty2,fr2,a1,a2,a3,a4⟩:=hm hh2;obtain⟨e1,e2⟩:=hoth c [] a2;exact⟨kT,c,off2,len2,cap2,arr2,ty2,fr2,a1,e1,e2.trans a3,a4⟩
      | np=>exact trivial
      | clo f ids=>
       obtain⟨bs,e,hn,hi⟩:=hs';refine⟨bs,e,hn,fun i id hid=>?_⟩;obtain⟨b,h1,h2⟩:=hi i id hid;exact⟨b,h1,qiL.2 h2⟩
      | rp ds' o=>
       obtain⟨c,e,hr'⟩:=hs';exact⟨c,e,hr'.frame fun c q _ hq'=>hother .free c q (by simp) (by simp) (fun s h=>by rcases h with h | h<;>cases h) hq'⟩
      | fd d=>
       exact Rep.frame hs' fun c q _ hq'=>hother .free c q (by simp) (by simp) (fun s h=>by rcases h with h | h<;>cases h) hq'
      | sv t2 k2 es2=>exact⟨hs'.1.frame fun c q _ hq'=>hother .free c q (by simp) (by simp) (fun s h=>by rcases h with h | h<;>cases h) hq',hs'.2⟩
      | sl g k2 es2=>
       cases g with
       | free=>exact⟨hs'.1.frame fun c q _ hq'=>hother .free c q (by simp) (by simp) (fun s h=>by rcases h with h | h<;>cases h) hq',trivial⟩
       | own s=>
        simp only[qeN];split
        ·rename_i hst';subst hst';have h2:=hs'.2;simp only[Tag.hdr]at h2;rw[hh]at h2;simp only[zd]at h2;rw[←h2.2];exact⟨hnewrep,hh⟩
        ·split
         ·exact trivial
         ·rename_i h1 h2;exact⟨hs'.1.frame fun c q _ hq'=>hother (.own s) c q (by simpa using h1) (by simp) (fun s' h=>by
           rcases h with h | h
           ·simp only[Tag.own.injEq]at h;subst h;exact hms _ h2
           ·cases h) hq',hs'.2⟩
       | ro s=>
        simp only[qeN];split
        ·exact trivial
        ·split
         ·exact trivial
         ·rename_i h1 h2;exact⟨hs'.1.frame fun c q _ hq'=>hother (.ro s) c q (by simp) (by simpa using h1) (fun s' h=>by
           rcases h with h | h
           ·cases h
           ·simp only[Tag.ro.injEq]at h;subst h;exact hms _ h2) hq',trivial⟩
      | ep g k2 es2 i2 j2=>
       obtain⟨b2,off2,cap2,e,hi2,hr2,hh2⟩:=hs';cases g with
       | free=>exact⟨b2,off2,cap2,e,hi2,hr2.frame fun c q _ hq'=>hother .free c q (by simp) (by simp) (fun s h=>by rcases h with h | h<;>cases h) hq',trivial⟩
       | own s=>
        simp only[qeN];split
        ·rename_i hst';subst hst';simp only[Tag.hdr]at hh2;rw[hh]at hh2;simp only[zd,Value.slice.injEq,za,Addr.mk.injEq]at hh2;obtain⟨rfl,⟨rfl,rfl,_⟩,hl2,rfl⟩:=hh2;refine⟨b,off,cap,e,by simp;omega,?_,?_⟩
         ·rw[zn];exact hnewrep
         ·rw[zn];exact hh
        ·split
         ·exact trivial
         ·rename_i h1 h2;exact⟨b2,off2,cap2,e,hi2,hr2.frame fun c q _ hq'=>hother (.own s) c q (by simpa using h1) (by simp) (fun s' h=>by
           rcases h with h | h
           ·simp only[Tag.own.injEq]at h;subst h;exact hms _ h2
           ·cases h) hq',hh2⟩
       | ro s=>
        simp only[qeN];split
        ·exact trivial
        ·split
         ·exact trivial
         ·rename_i h1 h2;exact⟨b2,off2,cap2,e,hi2,hr2.frame fun c q _ hq'=>hother (.ro s) c q (by simp) (by simpa using h1) (fun s' h=>by
           rcases h with h | h
           ·cases h
           ·simp only[Tag.ro.injEq]at h;subst h;exact hms _ h2) hq',trivial⟩
     refine⟨w.setRow b arr',?_,ω',τ,hrel.turn _ hsat ?_ ?_ ?_ ?_⟩
     ·simp only[Instr.storeAt,Instr.sureAddr,Sem.run_bind,Sem.run_pure,Result.andThen_ok,storeVar,sizeOf,typeInfo,run_program,e2];have hsz2:¬(v.cells.size≠inf.size):=by simp;omega
      rw[zo hsz2];exact hst
     ·exact hrel.below.setRow hown1 arr'
     ·intro c hcb;have:ω c≠.imm:=fun e=>hcb (qu3.2 e)
      obtain⟨h3,arr2,ty2,h4⟩:=hrel.owned c this;by_cases hcb':c=b
      ·subst hcb';exact⟨h3,arr',tyb,hhs⟩
      ·exact⟨h3,arr2,ty2,(setRow_other w b c arr' hcb').trans h4⟩
     ·intro id c hcb;exact⟨qiL.2 hcb,setRow_other w b c arr' fun e=>by rw[e,hR']at hcb;cases hcb⟩
     ·intro id c hcb;exact qiL.1 hcb
   ·cases h
  ·cases h
 ·cases h
end Go.Sx
namespace Go.Sx
open Go.RowKit
def qbU(w:World)(d:D)(y:Value):Prop:=Rep w (fun _=>.imm) Tag.free.R d y
def ArgOk(w:World):AD→Value→Prop
 | .one d,y=>qbU w d y
 | .agg ds,y=>∃vs:Array Value,y=.agg vs∧vs.size=ds.length∧∀(i:Nat) (d:D),ds[i]?=some d→∃u,vs[i]?=some u∧qbU w d u
def qiN(w:World)(ads:List AD)(vs:Array Value):Prop:=vs.size=ads.length∧∀(i:Nat) (ad:AD),ads[i]?=some ad→∃v,vs[i]?=some v∧ArgOk w ad v
def qb4(w:World)(ω:Own)(r:Nat):AD→Value→Prop
 | .one d,y=>Rep w ω (Tag.own (100*r)).R d y
 | .agg ds,y=>∃vs:Array Value,y=.agg vs∧vs.size=ds.length∧∀(j:Nat) (d:D),ds[j]?=some d→∃u,vs[j]?=some u∧Rep w ω (Tag.own (100*r+j)).R d u
def qcf(w:World)(ω:Own)(rs:List AD)(v:Value):Prop:=
 match rs with
 | [ad]=>qb4 w ω 0 ad v
 | rs=>∃vs:Array Value,v=.tuple vs∧vs.size=rs.length∧∀(r:Nat) (ad:AD),rs[r]?=some ad→∃y,vs[r]?=some y∧qb4 w ω r ad y
def ResOk(w0 w:World)(rs:List AD)(v:Value):Prop:=
 ∃ω:Own,(∀b,b<w0.heap.size→ω b=.imm)∧(∀b,ω b≠.imm→(∃t q,ω b=.tok t q)∧∃arr ty,w.heap[b]?=some (.cells arr ty (0,0)))∧qcf w ω rs v
def Ret(P:Program)(f:FuncId)(args rs:List AD):Prop:=
 ∀(w:World) (vs:Array Value),Tabs w→qiN w args vs→Calls P f vs w fun e w'=>∃v,e=.returned v∧Blw w.heap.size w w'∧ResOk w w' rs v
def Leaf.argD0:Leaf→Option D
 | .v x=>if x.oneCell' then some (.v x) else none
 | .sb c=>some (.v (.bool c))
 | .sl _ k es=>some (.sl k es)
 | .rp ds off=>if off=0 then some (.ptr ds) else none
 | .fd d=>some d
 | .sv _ k es=>some (.sl k es)
 | .sn _ _ _ k es .here=>some (.sl k es)
 | .sn _ _ _ k es .away=>some (.sl k es)
 | _=>none
abbrev Boxes:=List (Nat×List Leaf)
def boxD(bs:Boxes)(id:Nat):Option D:=(qap id bs).bind fun ls=>(ls.mapM Leaf.argD0).map .ptr
def Leaf.argD(bs:Boxes):Leaf→Option D
 | .ptr id off=>if off=0 then boxD bs id else none
 | .clo g ids=>(ids.mapM (boxD bs)).map (.cl g)
 | l=>l.argD0
def AL.argD(bs:Boxes):AL→Option AD
 | .one l=>(l.argD bs).map .one
 | .agg ls=>(ls.mapM (Leaf.argD bs)).map .agg
def PV.argD(bs:Boxes):PV→Option AD
 | .al a=>a.argD bs
 | _=>none
theorem Rep.free{w:World}{ω:Own}{R:List (Nat×Nat)→Owner→Prop}{d:D}{y:Value}(h:Rep w ω R d y):qbU w d y:=
 h.frame fun _ _ _ _=>⟨rfl,rfl⟩
theorem Leaf.argD0_sat{w:World}{ω:Own}{τ:Nat→Nat×Value}{l:Leaf}{d:D}{y:Value}(h:l.argD0=some d)(hs:Sat w ω τ l y):qbU w d y:=by
 cases l with
 | und=>cases h
 | v x=>
  simp only[Leaf.argD0]at h;split at h
  ·simp only[za]at h;subst h;have:y=x:=hs;subst this;exact .v _ _ ‹_›
  ·cases h
 | sb c=>
  simp only[Leaf.argD0,za]at h;subst h;have:y=.bool c:=hs;subst this;exact .v _ _ rfl
 | sl t k es=>simp only[Leaf.argD0,za]at h;subst h;exact hs.1.free
 | ptr=>cases h
 | ep=>cases h
 | clo=>cases h
 | np=>cases h
 | rp ds off=>
  simp only[Leaf.argD0]at h;split at h
  ·rename_i ho;subst ho;simp only[za]at h;subst h;obtain⟨b,rfl,hr⟩:=hs;exact hr.free
  ·cases h
 | fd d'=>simp only[Leaf.argD0,za]at h;subst h;exact Rep.free hs
 | sv t k es=>simp only[Leaf.argD0,za]at h;subst h;exact Rep.free hs.1
 | sn t i j k es m=>
  obtain⟨u,hu,hr,_⟩:=hs;cases m with
  | at_ x z=>cases h
  | here=>simp only[Leaf.argD0,za]at h;subst h;have:y=u:=hu;subst this;exact hr.free
  | away=>simp only[Leaf.argD0,za]at h;subst h;have:y=u:=hu;subst this;exact hr.free
def qeO(w:World)(ω:Own)(τ:Nat→Nat×Value)(bs:Boxes):Prop:=∀id ls,qap id bs=some ls→BoxOk w ω τ id ls
theorem qoq{w:World}{ω:Own}{τ:Nat→Nat×Value}{bs:Boxes}(hb:qeO w ω τ bs){id b:Nat}{d:D}(h:boxD bs id=some d)(ho:ω b=.box id):qbU w d (ptrTo b):=by
 unfold boxD at h;cases e:qap id bs with
 | none=>simp[e]at h
 | some ls=>
  simp only[e,zan,zc]at h;obtain⟨ds,h1,rfl⟩:=h;obtain⟨b',arr,ty,hb',hu,hh,hs⟩:=hb id ls e;have:=hu b ho;subst this;obtain⟨h2,h3⟩:=qct h1;have cell:∀j d,ds[j]?=some d→arr[j]?=some (arr.getD j undef)∧qbU w d (arr.getD j undef):=by
   intro j d hd;obtain⟨l,hl,hl2⟩:=h3 j d hd;obtain⟨u,hu1,hu2⟩:=hs.2 j l hl;have e2:arr.getD j undef=u:=by simp[zl,hu1]
   rw[e2];exact⟨hu1,Leaf.argD0_sat hl2 hu2⟩
  exact Rep.ptr _ ds b arr ty (0,0) (fun j=>arr.getD j undef) hh rfl (by have:=hs.1;omega) (fun j d hd=>(cell j d hd).1) (fun j d hd=>(cell j d hd).2.frame fun _ _ _ _=>⟨rfl,rfl⟩)
theorem Leaf.argD_sat{w:World}{ω:Own}{τ:Nat→Nat×Value}{bs:Boxes}(hb:qeO w ω τ bs){l:Leaf}{d:D}{y:Value}(h:l.argD bs=some d)(hs:Sat w ω τ l y):qbU w d y:=by
 unfold Leaf.argD at h;split at h
 ·rename_i id off;split at h
  ·rename_i ho;subst ho;obtain⟨b,h1,rfl⟩:=hs;exact qoq hb h h1
  ·cases h
 ·rename_i g ids;rw[zc]at h;obtain⟨ds,h1,rfl⟩:=h;obtain⟨bl,rfl,hn,hi⟩:=hs;obtain⟨h2,h3⟩:=qct h1;have cell:∀j d,ds[j]?=some d→(bl.map ptrTo).toArray[j]?=some ((bl.map ptrTo).toArray.getD j undef)∧qbU w d ((bl.map ptrTo).toArray.getD j undef):=by
   intro j d hd;obtain⟨id,hid,hd2⟩:=h3 j d hd;obtain⟨b,hb1,hb2⟩:=hi j id hid;have e1:(bl.map ptrTo).toArray[j]?=some (ptrTo b):=by simp[hb1]
   have e2:(bl.map ptrTo).toArray.getD j undef=ptrTo b:=by rw[zl,e1];rfl
   rw[e2];exact⟨e1,qoq hb hd2 hb2⟩
  exact Rep.cl _ g ds _ (fun j=>(bl.map ptrTo).toArray.getD j undef) (by simp;omega) (fun j d hd=>(cell j d hd).1) (fun j d hd=>(cell j d hd).2.frame fun _ _ _ _=>⟨rfl,rfl⟩)
 ·exact Leaf.argD0_sat h hs
theorem PV.argD_sat{w:World}{ω:Own}{τ:Nat→Nat×Value}{bs:Boxes}(hb:qeO w ω τ bs){p:PV}{ad:AD}{y:Value}(h:p.argD bs=some ad)(hs:SatP (Sat w ω τ) p y):ArgOk w ad y:=by
 cases p with
 | tup as=>cases h
 | al a=>
  cases a with
  | one l=>
   simp only[PV.argD,AL.argD,zc]at h;obtain⟨d,h1,rfl⟩:=h;exact Leaf.argD_sat hb h1 hs
  | agg ls=>
   simp only[PV.argD,AL.argD,zc]at h;obtain⟨ds,h1,rfl⟩:=h;obtain⟨h2,h3⟩:=qct h1;obtain⟨vs,rfl,hn,hv⟩:=hs;refine⟨vs,rfl,by omega,fun i d hd=>?_⟩;obtain⟨l,hl,hl2⟩:=h3 i d hd;obtain⟨u,hu,hu2⟩:=hv i l hl;exact⟨u,hu,Leaf.argD_sat hb hl2 hu2⟩
def qaT(P:Program)(g:FuncId):Bool:=
 match P.funcs[g]? with
 | some fn => !(fn.name == "runtime.NumGoroutine") && !fn.body.isNone
 | none=>false
def D.resLeaf(t:Nat):D→Leaf
 | .v (.bool c)=>.sb c
 | .v x=>.v x
 | .sl k es=>.sl (.own t) k es
 | .ptr _=>.und
 | .cl _ _=>.und
def qcu(t:Nat):Nat→List D→List Leaf
 | _,[]=>[]
 | j,d::ds=>d.resLeaf (t+j)::qcu t (j+1) ds
theorem qg8(t:Nat):∀(ds:List D) (j i:Nat),(qcu t j ds)[i]?=(ds[i]?).map (D.resLeaf (t+(j+i)))
 | [],_,_=>by simp[qcu]
 | d::ds,j,0=>by simp[qcu]
 | d::ds,j,i+1=>by
  simp only[qcu,zaf,qg8 t ds (j+1) i];rw[show j+1+i=j+(i+1) by omega]
theorem qf1(t:Nat):∀(ds:List D) (j:Nat),(qcu t j ds).length=ds.length
 | [],_=>rfl
 | d::ds,j=>by simp[qcu,qf1 t ds (j+1)]
def AD.res(t:Nat):AD→AL
 | .one d=>.one (d.resLeaf t)
 | .agg ds=>.agg (qcu t 0 ds)
def qc2(t:Nat):Nat→List AD→List AL
 | _,[]=>[]
 | r,a::as=>a.res (t+100*r)::qc2 t (r+1) as
theorem qiO(t:Nat):∀(as:List AD) (r i:Nat),(qc2 t r as)[i]?=(as[i]?).map (AD.res (t+100*(r+i)))
 | [],_,_=>by simp[qc2]
 | d::ds,j,0=>by simp[qc2]
 | d::ds,j,i+1=>by
  simp only[qc2,zaf,qiO t ds (j+1) i];rw[show j+1+i=j+(i+1) by omega]
theorem qiP(t:Nat):∀(as:List AD) (r:Nat),(qc2 t r as).length=as.length
 | [],_=>rfl
 | d::ds,j=>by simp[qc2,qiP t ds (j+1)]
def resPV(t:Nat):List AD→PV
 | [a]=>.al (a.res t)
 | as=>.tup (qc2 t 0 as)
def qd4(rs:List AD):Bool:=rs.length<100&&rs.all fun | .one _=>true | .agg ds=>ds.length<100
def qa2(t:Nat):Tag→Option Tag
 | .free=>some .free
 | .own s=>if t≤s∧s<t+10000 then some .free else some (.own s)
 | .ro s=>if t≤s∧s<t+10000 then some .free else some (.ro s)
def qcB(t:Nat):Owner→Owner
 | .tok s q=>if t≤s∧s<t+10000 then .imm else .tok s q
 | o=>o
def qor(t:Nat):Owner→Owner
 | .tok s q=>.tok (t+s) q
 | _=>.imm
def AD.cell(j:Nat):AD→Option D
 | .one d=>if j=0 then some d else none
 | .agg ds=>ds[j]?
def hdrK(rs:List AD)(n:Nat):Nat:=
 match (rs[n / 100]?).bind (AD.cell (n % 100)) with
 | some (.sl k _)=>k
 | _=>0
def hdrV(rs:List AD)(v:Value)(n:Nat):Value:=
 match rs with
 | [_]=>v.cells.getD (n % 100) undef
 | _=>match v with
  | .tuple vs=>(vs.getD (n / 100) undef).cells.getD (n % 100) undef
  | _=>undef
def St.cal(st:St)(t:Nat):St:=st.map (Leaf.re (qa2 t) fun _=>true)
theorem RelAt.called{w0:Base}{st:St}{a:Act}{w w':World}{ω:Own}{τ:Nat→Nat×Value}(hrel:RelAt w0 st a w ω τ)(t:Nat){rs:List AD}{v:Value}
  (hfit:qd4 rs=true) (htg:t+10000≤giv) (hb:Blw w.heap.size w w') (hres:ResOk w w' rs v):
  ∃ω' τ',RelAt w0 (st.cal t) a w' ω' τ'∧SatP (Sat w' ω' τ') (resPV t rs) v:=by
 obtain⟨ωc,hc1,hc2,hc3⟩:=hres
 let ω':Own:=fun b=>if b<w.heap.size then qcB t (ω b) else qor t (ωc b)
 let τ':Nat→Nat×Value:=fun s=>if t≤s∧s<t+10000 then (hdrK rs (s-t),hdrV rs v (s-t)) else τ s
 have hold:∀b,b<w.heap.size→ω' b=qcB t (ω b):=fun b hb=>by simp only[ω'];rw[zp hb]
 have hnew:∀b,¬b<w.heap.size→ω' b=qor t (ωc b):=fun b hb=>by simp only[ω'];rw[zo hb]
 have ev:Evolve w ω τ w' ω' τ' (qa2 t) (fun _=>true):=by
  refine⟨?_,?_,?_,rfl,fun s hs=>by simp only[τ'];rw[zo (by omega)]⟩
  ·intro g g' b q hg hlt hq;refine⟨?_,hb.block b hlt⟩;rw[hold b hlt];cases g with
   | free=>simp only[qa2,za]at hg;subst hg;simp only[Tag.R]at hq ⊢;rw[hq];rfl
   | own s=>
    simp only[Tag.R]at hq;simp only[qa2]at hg;rw[hq];simp only[qcB];split at hg
    ·simp only[za]at hg;subst hg;rw[zp ‹_›];rfl
    ·simp only[za]at hg;subst hg;rw[zo ‹_›];rfl
   | ro s=>
    simp only[Tag.R]at hq;simp only[qa2]at hg;split at hg
    ·simp only[za]at hg;subst hg;rcases hq with h | ⟨q',h⟩
     ·rw[h];rfl
     ·rw[h];simp only[qcB];rw[zp ‹_›];rfl
    ·simp only[za]at hg;subst hg;rcases hq with h | ⟨q',h⟩
     ·rw[h];exact .inl rfl
     ·rw[h];simp only[qcB];rw[zo ‹_›];exact .inr ⟨q',rfl⟩
  ·intro g g' y hg hy;cases g with
   | free=>simp only[qa2,za]at hg;subst hg;exact trivial
   | own s=>
    simp only[qa2]at hg;split at hg
    ·simp only[za]at hg;subst hg;exact trivial
    ·simp only[za]at hg;subst hg;simp only[Tag.hdr,τ']at hy ⊢;rw[zo ‹_›];exact hy
   | ro s=>
    simp only[qa2]at hg;split at hg
    ·simp only[za]at hg;subst hg;exact trivial
    ·simp only[za]at hg;subst hg;exact trivial
  ·intro id b _ hbx;have hlt:=hrel.owned.lt (b:=b) (by simp[hbx]);rw[hold b hlt,hbx];rfl
 have cell:∀(n:Nat) (d:D) (u:Value),n<10000→hdrV rs v n=u→(∀k es,d=.sl k es→hdrK rs n=k)→Rep w' ωc (Tag.own n).R d u→Sat w' ω' τ' (d.resLeaf (t+n)) u:=by
  intro n d u hn hv hk hr;cases d with
  | v x=>
   have e:u=x:=by cases hr;rfl
   subst e;unfold D.resLeaf;split
   ·rename_i h;cases h;exact rfl
   ·rename_i h;cases h;exact rfl
   ·rename_i h;cases h
   ·exact trivial
   ·exact trivial
  | ptr ds=>exact trivial
  | cl g caps=>exact trivial
  | sl k es=>
   refine⟨hr.frame fun b q hlt hq=>⟨?_,rfl⟩,?_⟩
   ·simp only[Tag.R]at hq ⊢;have:¬b<w.heap.size:=fun h=>by have:=hc1 b h;rw[this]at hq;cases hq
    rw[hnew b this,hq];rfl
   ·simp only[Tag.hdr,τ'];rw[zp (by omega),show t+n-t=n by omega,hv,hk k es rfl]
 have cellA:∀(r:Nat) (ad:AD) (y:Value),r<100→(∀ds,ad=.agg ds→ds.length<100)→rs[r]?=some ad→(∀j,j<100→hdrV rs v (100*r+j)=y.cells.getD j undef)→qb4 w' ωc r ad y→SatA (Sat w' ω' τ') (ad.res (t+100*r)) y:=by
  intro r ad y hr hds hrs hv hcr;have hkk:∀j,j<100→hdrK rs (100*r+j)=(match AD.cell j ad with | some (.sl k _)=>k | _=>0):=by
   intro j hj;unfold hdrK;rw[show (100*r+j) / 100=r by omega,show (100*r+j) % 100=j by omega,hrs];rfl
  cases ad with
  | one d=>
   have h1:=hcr.oneCell;have h2:=hv 0 (by omega);rw[qg4 h1]at h2;have:=cell (100*r) d y (by omega) (by simpa using h2) (fun k es e=>by
    have:=hkk 0 (by omega);rw[zbj]at this;rw[this,e];rfl) hcr
   exact this
  | agg ds=>
   obtain⟨vs,rfl,hn,hj⟩:=hcr;refine⟨vs,rfl,by rw[qf1];exact hn,fun j l hl=>?_⟩;rw[qg8,zc]at hl;obtain⟨d,hd,rfl⟩:=hl;obtain⟨u,hu,hru⟩:=hj j d hd;have hjl:j<100:=by
    have:=(zk.1 hd).1;have:=hds ds rfl;omega
   refine⟨u,hu,?_⟩;have:=cell (100*r+j) d u (by omega) (by rw[hv j hjl];simp[Value.cells,zl,hu]) (fun k es e=>by
    rw[hkk j hjl];simp only[AD.cell,hd,e]) hru
   rw[show t+100*r+(0+j)=t+(100*r+j) by omega];exact this
 simp only[qd4,zj,zi]at hfit;have hds:∀(r:Nat) (ad:AD),rs[r]?=some ad→∀ds,ad=.agg ds→ds.length<100:=by
  intro r ad hr ds e;have:=zM.1 hfit.2 ad (zw hr);subst e;simpa using this
 refine⟨ω',τ',hrel.turn _ ev.sat (hrel.below.next hb) ?_ ?_ ?_ (fun s hs=>by simp only[τ'];rw[zo (by omega)]),?_⟩
 ·intro b hbi;by_cases hlt:b<w.heap.size
  ·rw[hold b hlt]at hbi;have h2:ω b≠.imm:=fun e=>by rw[e]at hbi;exact hbi rfl
   obtain⟨h3,arr,ty,h4⟩:=hrel.owned b h2;exact⟨h3,arr,ty,(hb.block b hlt).trans h4⟩
  ·rw[hnew b hlt]at hbi;have h2:ωc b≠.imm:=fun e=>by rw[e]at hbi;exact hbi rfl
   obtain⟨_,arr,ty,h4⟩:=hc2 b h2;exact⟨.inl (by have:=hrel.below.size;omega),arr,ty,h4⟩
 ·intro id b hbx;have hlt:=hrel.owned.lt (b:=b) (by simp[hbx]);exact⟨ev.box id b rfl hbx,hb.block b hlt⟩
 ·intro id b hbx;by_cases hlt:b<w.heap.size
  ·rw[hold b hlt]at hbx;cases e:ω b with
   | imm=>rw[e]at hbx;cases hbx
   | box i=>rw[e]at hbx;exact hbx
   | tok s q=>rw[e]at hbx;simp only[qcB]at hbx;split at hbx<;>cases hbx
  ·rw[hnew b hlt]at hbx;cases e:ωc b<;>(rw[e]at hbx;cases hbx)
 ·cases rs with
  | nil=>
   obtain⟨vs,rfl,hn,_⟩:=hc3;exact⟨vs,rfl,hn,fun i a ha=>by simp[qc2]at ha⟩
  | cons ad rest=>
   cases rest with
   | nil=>
    have:=cellA 0 ad v (by omega) (hds 0 ad rfl) rfl (fun j hj=>by
     unfold hdrV;simp only[Nat.mul_zero,zv];rw[zcu hj]) hc3
    exact this
   | cons ad2 rest=>
    obtain⟨vs,rfl,hn,hv⟩:=hc3;refine⟨vs,rfl,by rw[qiP];exact hn,fun i a ha=>?_⟩;rw[qiO,zc]at ha;obtain⟨ad',h1,rfl⟩:=ha;obtain⟨y,hy,hcy⟩:=hv i ad' h1;have hil:i<100:=by
     have:=(zk.1 h1).1;omega
    refine⟨y,hy,?_⟩;have:=cellA i ad' y hil (hds i ad' h1) h1 (fun j hj=>by
     unfold hdrV;simp only;rw[show (100*i+j) / 100=i by omega,show (100*i+j) % 100=j by omega];simp[zl,hy]) hcy
    rw[zv];exact this
end Go.Sx
namespace Go.Sx
open Go.RowKit
inductive GC where
 | ro (d:D)
 | gv (k:Nat) (es:List (List D)) (post:Option (List (List D)))
inductive GA where
 | one (c:GC)
 | agg (cs:List GC)
def gTok(i j:Nat):Nat:=giv+(100*i+j)
def GA.cell(j:Nat):GA→Option GC
 | .one c=>if j=0 then some c else none
 | .agg cs=>cs[j]?
def cellOf(v:Value)(j:Nat):Value:=v.cells.getD j undef
def GcOk(w:World)(ω:Own)(t:Nat):GC→Value→Prop
 | .ro d,y=>Rep w ω Tag.free.R d y
 | .gv k es _,y=>Rep w ω (Tag.own t).R (.sl k es) y
def GaOk(w:World)(ω:Own)(i:Nat):GA→Value→Prop
 | .one c,y=>GcOk w ω (gTok i 0) c y
 | .agg cs,y=>∃vs:Array Value,y=.agg vs∧vs.size=cs.length∧∀(j:Nat) (c:GC),cs[j]?=some c→∃u,vs[j]?=some u∧GcOk w ω (gTok i j) c u
def Given(w:World)(ω:Own):Prop:=∀b,ω b≠.imm→(∃t q,ω b=.tok t q∧giv≤t)∧∃arr ty,w.heap[b]?=some (.cells arr ty (0,0))
def GasOk(w:World)(ω:Own)(args:List GA)(vs:Array Value):Prop:=Given w ω∧vs.size=args.length∧∀(i:Nat) (ga:GA),args[i]?=some ga→∃v,vs[i]?=some v∧GaOk w ω i ga v
def Kept(w:World)(ω:Own)(args:List GA)(vs:Array Value):Prop:=
 ∀(i j:Nat) (ga:GA) (k:Nat) (es es':List (List D)),args[i]?=some ga→ga.cell j=some (.gv k es (some es'))→Rep w ω (Tag.own (gTok i j)).R (.sl k es') (cellOf (vs.getD i undef) j)
def RetG(P:Program)(f:FuncId)(args:List GA)(rs:List AD):Prop:=
 ∀(w:World) (vs:Array Value) (ω:Own),GasOk w ω args vs→Tidy w ω→Calls P f vs w fun e w'=>∃v,e=.returned v∧Bel ⟨w,fun b=>ω b≠.imm,fun _=>(0,undef)⟩ w'∧
  ∃ω':Own,(∀b,b<w.heap.size→ω b=.imm→ω' b=.imm)∧(∀b,ω' b≠.imm→(∃t q,ω' b=.tok t q)∧∃arr ty,w'.heap[b]?=some (.cells arr ty (0,0)))∧Kept w' ω' args vs∧qcf w' ω' rs v
structure HL where
 i:Nat
 j:Nat
 t:Nat
 p:Option (Nat×Nat)
 k:Nat
 es:List (List D)
 post:Option (List (List D))
abbrev Mk:=Option (Option (List (List D)))
def cellG(bs:Boxes)(i j:Nat):Mk→Leaf→Option (GC×List HL×List Leaf)
 | none,l=>(l.argD bs).map fun d=>(.ro d,[],[l])
 | some post,.sl (.own t) k es=>some (.gv k es post,[⟨i,j,t,none,k,es,post⟩],[])
 | some post,.sn t a b k es .here=>some (.gv k es post,[⟨i,j,t,some (a,b),k,es,post⟩],[])
 | _,_=>none
def qcR(bs:Boxes)(i:Nat):Nat→List Mk→List Leaf→Option (List GC×List HL×List Leaf)
 | _,[],[]=>some ([],[],[])
 | j,m::ms,l::ls=>
  match cellG bs i j m l,qcR bs i (j+1) ms ls with
  | some (c,h,r),some (cs,hs,rs)=>some (c::cs,h++hs,r++rs)
  | _,_=>none
 | _,_,_=>none
def argG(bs:Boxes)(i:Nat)(ms:List Mk):PV→Option (GA×List HL×List Leaf)
 | .al (.one l)=>match ms with | [m]=>(cellG bs i 0 m l).map fun r=>(.one r.1,r.2) | _=>none
 | .al (.agg ls)=>(qcR bs i 0 ms ls).map fun r=>(.agg r.1,r.2)
 | _=>none
def argsG(bs:Boxes):Nat→List (List Mk)→List PV→Option (List GA×List HL×List Leaf)
 | _,[],[]=>some ([],[],[])
 | i,ms::mss,p::ps=>
  match argG bs i ms p,argsG bs (i+1) mss ps with
  | some (a,h,r),some (as,hs,rs)=>some (a::as,h++hs,r++rs)
  | _,_=>none
 | _,_,_=>none
def tokH(hs:List HL)(t:Nat):Bool:=hs.any fun h=>h.t==t
def Tag.mentH(hs:List HL):Tag→Bool
 | .free=>false
 | .own t=>tokH hs t
 | .ro t=>tokH hs t
def Leaf.mentH0(hs:List HL):Leaf→Bool
 | .sl t _ _=>t.mentH hs
 | .ep t _ _ _ _=>t.mentH hs
 | .sn t _ _ _ _ _=>tokH hs t
 | .np _ _=>true
 | _=>false
def Leaf.mentH(bs:Boxes)(hs:List HL):Leaf→Bool
 | .ptr id _=>match qap id bs with | some ls=>ls.any (Leaf.mentH0 hs) | none=>true
 | .clo _ ids=>ids.any fun id=>match qap id bs with | some ls=>ls.any (Leaf.mentH0 hs) | none=>true
 | l=>l.mentH0 hs
def HL.apart(h y:HL):Bool:=
 (h.i != y.i||h.j != y.j)&&(h.t != y.t||match h.p,y.p with | some p,some q=>p.2 != q.2 | _,_=>false)
def qcC:List HL→Bool
 | []=>true
 | h::r=>decide (h.j<100)&&(r.all (HL.apart h)&&qcC r)
theorem qos:∀{hs:List HL},qcC hs=true→∀h∈hs,∀y∈hs,h=y∨(HL.apart h y=true∨HL.apart y h=true)
 | [],_,h,hh,_,_=>by cases hh
 | x::r,hk,h,hh,y,hy=>by
  simp only[qcC,zj,zM]at hk;rcases zL.1 hh with e1 | hh1
  ·rcases zL.1 hy with e2 | hy1
   ·exact .inl (e1.trans e2.symm)
   ·rw[e1];exact .inr (.inl (hk.2.1 y hy1))
  ·rcases zL.1 hy with e2 | hy1
   ·rw[e2];exact .inr (.inr (hk.2.1 h hh1))
   ·exact qos hk.2.2 h hh1 y hy1
theorem qot:∀{hs:List HL},qcC hs=true→∀h∈hs,h.j<100
 | [],_,h,hh=>by cases hh
 | x::r,hk,h,hh=>by
  simp only[qcC,zj,zi]at hk;rcases zL.1 hh with rfl | hh
  ·exact hk.1
  ·exact qot hk.2.2 h hh
def HL.fit(h:HL)(t:Nat)(q:List (Nat×Nat)):Option (List (Nat×Nat)):=
 if h.t=t then
  match h.p,q with
  | none,q=>some q
  | some p,x::q'=>if x=p then some q' else none
  | some _,[]=>none
 else none
def findH(t:Nat)(q:List (Nat×Nat)):List HL→Option (Nat×List (Nat×Nat))
 | []=>none
 | h::r=>match h.fit t q with | some q'=>some (gTok h.i h.j,q') | none=>findH t q r
theorem qu5{h y:HL}{t:Nat}{q q1 q2:List (Nat×Nat)}(h1:h.fit t q=some q1)(h2:y.fit t q=some q2):HL.apart h y=false:=by
 unfold HL.fit at h1 h2;split at h1
 ·rename_i e1;split at h2
  ·rename_i e2;have e3:(h.t != y.t)=false:=by simp[e1,e2]
   simp only[HL.apart,e3,zal,Bool.and_eq_false_imp];intro _;split at h1
   ·rename_i hp;rw[hp]
   ·rename_i p x q' hp;split at h1
    ·rename_i hx;split at h2
     ·rename_i hp2;rw[hp,hp2]
     ·rename_i p2 x2 q2' hp2 heq;split at h2
      ·rename_i hx2;rw[hp,hp2];simp only[zbr]at heq;obtain⟨rfl,_⟩:=heq;subst hx;subst hx2;simp
      ·cases h2
     ·cases h2
    ·cases h1
   ·cases h1
  ·cases h2
 ·cases h1
theorem qk7{t:Nat}{q q':List (Nat×Nat)}:∀{hs:List HL},qcC hs=true→∀{h:HL},h∈hs→h.fit t q=some q'→findH t q hs=some (gTok h.i h.j,q')
 | [],_,h,hh,_=>by cases hh
 | x::r,hk,h,hh,hf=>by
  have hk':=hk;simp only[qcC,zj,zM]at hk;simp only[findH];rcases zL.1 hh with rfl | hh
  ·rw[hf]
  ·cases e:x.fit t q with
   | none=>exact qk7 hk.2.2 hh hf
   | some q2=>
    have:=qu5 e hf;rw[hk.2.1 h hh]at this;cases this
theorem qg9{t g:Nat}{q q':List (Nat×Nat)}:∀{hs:List HL},findH t q hs=some (g,q')→∃h∈hs,h.fit t q=some q'∧g=gTok h.i h.j
 | [],h=>by cases h
 | x::r,h=>by
  simp only[findH]at h;split at h
  ·rename_i q2 e;simp only[za,zd]at h;obtain⟨rfl,rfl⟩:=h;exact⟨x,zm,e,rfl⟩
  ·obtain⟨y,hy,h2⟩:=qg9 h;exact⟨y,zg _ hy,h2⟩
theorem qou{h:HL}{t:Nat}{q q':List (Nat×Nat)}(e:h.fit t q=some q'):h.t=t∧q=h.p.toList++q':=by
 unfold HL.fit at e;split at e
 ·rename_i e1;refine⟨e1,?_⟩;split at e
  ·rename_i hp;simp only[za]at e;rw[hp,e];rfl
  ·rename_i p x q2 hp;split at e
   ·rename_i hx;simp only[za]at e;rw[hp,hx,e];rfl
   ·cases e
  ·cases e
 ·cases e
theorem qov(h:HL)(q:List (Nat×Nat)):h.fit h.t (h.p.toList++q)=some q:=by
 unfold HL.fit;rw[zp rfl];cases h.p with
 | none=>rfl
 | some p=>simp
def qaS(hs:List HL)(ω:Own):Own:=fun b=>
 match ω b with
 | .tok t q=>match findH t q hs with | some (g,q')=>.tok g q' | none=>.imm
 | _=>.imm
def backH(g:Nat):List HL→Option HL
 | []=>none
 | h::r=>if gTok h.i h.j=g then some h else backH g r
theorem qow:∀{hs:List HL},qcC hs=true→∀{h:HL},h∈hs→backH (gTok h.i h.j) hs=some h
 | [],_,h,hh=>by cases hh
 | x::r,hk,h,hh=>by
  have hj:=qot hk;have hk':=hk;simp only[qcC,zj,zM]at hk;simp only[backH];rcases zL.1 hh with rfl | hh'
  ·rw[zp rfl]
  ·rw[zo]
   ·exact qow hk.2.2 hh'
   ·intro e;have h1:=hj x zm;have h2:=hj h (zg _ hh');have h3:=hk.2.1 h hh';simp only[HL.apart,zj,zbi,bne_iff_ne,zcc]at h3;simp only[gTok]at e;omega
def qha(hs:List HL)(t0:Nat):Owner→Owner
 | .tok s q=>if giv≤s then (match backH s hs with | some h=>.tok h.t (h.p.toList++q) | none=>.imm) else .tok (t0+s) q
 | _=>.imm
def qeP(t:Nat):List HL→Option HL
 | []=>none
 | h::r=>if h.t=t then some h else qeP t r
theorem qox{t:Nat}:∀{hs:List HL},qeP t hs=none→tokH hs t=false
 | [],_=>rfl
 | h::r,e=>by
  simp only[qeP]at e;split at e
  ·cases e
  ·rename_i hne;have:=qox e;simp only[tokH,zcg,zy]at this ⊢;exact⟨by simpa using hne,this⟩
theorem qoy{t:Nat}{h:HL}:∀{hs:List HL},qeP t hs=some h→h∈hs∧h.t=t
 | [],e=>by cases e
 | x::r,e=>by
  simp only[qeP]at e;split at e
  ·simp only[za]at e;subst e;exact⟨zm,‹_›⟩
  ·obtain⟨h1,h2⟩:=qoy e;exact⟨zg _ h1,h2⟩
def qcg:List HL→List D→List D
 | [],ds=>ds
 | h::r,ds=>match h.p,h.post with
  | some p,some es=>qcg r (ds.set p.2 (.sl h.k es))
  | _,_=>qcg r ds
def qdj(hs:List HL)(t0 tS kS:Nat)(esS:List (List D)):Leaf→Leaf
 | .sl (.own t) k es=>
  match qeP t hs with
  | some h=>match h.p,h.post with
   | none,some es'=>.sl (.own t) h.k es'
   | none,none=>.und
   | some _,_=>if t=tS then .sl (.own t) kS esS else .und
  | none=>Leaf.re (qa2 t0) (fun _=>true) (.sl (.own t) k es)
 | l=>if l.mentH0 hs then .und else l.re (qa2 t0) fun _=>true
end Go.Sx
namespace Go.Sx
open Go.RowKit
theorem qu6{hs:List HL}{t:Nat}(h:tokH hs t=false):∀y∈hs,y.t≠t:=by
 intro y hy e;simp only[tokH,zP,zE]at h;exact h y hy e
theorem qk8{hs:List HL}{t:Nat}(h:tokH hs t=false)(q:List (Nat×Nat)):findH t q hs=none:=by
 cases e:findH t q hs with
 | none=>rfl
 | some x=>
  obtain⟨g,q'⟩:=x;obtain⟨y,hy,hf,_⟩:=qg9 e;exact absurd (qou hf).1 (qu6 h y hy)
structure HandAt (w:World) (ω:Own) (τ:Nat→Nat×Value) (h:HL) (u:Value):Prop where
 rep:Rep w ω (fun q o=>o=.tok h.t (h.p.toList++q)) (.sl h.k h.es) u
 root:h.p=none→τ h.t=(h.k,u)
 cell:∀a b,h.p=some (a,b)→∃(kT b0 off len cap:Nat) (arr:Array Value) (ty:TypeId) (fr:Nat×Nat),τ h.t=(kT,.slice (some ⟨b0,off,none⟩) len cap)∧ω b0=.tok h.t []∧w.heap[b0]?=some (.cells arr ty fr)∧arr[off+a*kT+b]?=some u
structure SubAt (w:World) (ω:Own) (τ:Nat→Nat×Value) (hs:List HL) (tS kS:Nat) (esS:List (List D)):Prop where
 ex:∀h∈hs,∀p,h.p=some p→h.t=tS→∃(es0:List (List D)) (y:Value) (ds:List D) (a:Nat),Sat w ω τ (.sl (.own tS) kS es0) y∧es0[a]?=some ds∧ds.length=kS∧esS=es0.set a (qcg hs ds)∧
  ∀x∈hs,∀q,x.p=some q→x.t=tS∧q.1=a∧∃es',x.post=some es'
theorem qhb:∀(hs:List HL) (ds:List D),(qcg hs ds).length=ds.length
 | [],_=>rfl
 | h::r,ds=>by
  simp only[qcg];split
  ·rw[qhb r,zn]
  ·exact qhb r ds
theorem qk9{y:Nat}{d:D}:∀{hs:List HL} {ds:List D},(qcg hs ds)[y]?=some d→(∃h∈hs,∃a es',h.p=some (a,y)∧h.post=some es'∧d=.sl h.k es')∨ds[y]?=some d∧∀h∈hs,∀a es',h.p=some (a,y)→h.post=some es'→False
 | [],ds,h=>.inr ⟨h,fun _ hh=>by cases hh⟩
 | h::r,ds,hd=>by
  simp only[qcg]at hd;split at hd
  ·rename_i p es' e1 e2;rcases qk9 hd with⟨x,hx,a,es2,h1,h2,h3⟩ | ⟨h1,h2⟩
   ·exact .inl ⟨x,zg _ hx,a,es2,h1,h2,h3⟩
   ·rw[zad]at h1;split at h1
    ·rename_i hp;split at h1
     ·simp only[za]at h1;exact .inl ⟨h,zm,p.1,es',by rw[e1,←hp],e2,h1.symm⟩
     ·cases h1
    ·rename_i hp;refine .inr ⟨h1,fun x hx a es2 h3 h4=>?_⟩;rcases zL.1 hx with rfl | hx
     ·rw[e1]at h3;simp only[za]at h3;rw[h3]at hp;exact hp rfl
     ·exact h2 x hx a es2 h3 h4
  ·rename_i hne;rcases qk9 hd with⟨x,hx,a,es2,h1,h2,h3⟩ | ⟨h1,h2⟩
   ·exact .inl ⟨x,zg _ hx,a,es2,h1,h2,h3⟩
   ·refine .inr ⟨h1,fun x hx a es2 h3 h4=>?_⟩;rcases zL.1 hx with rfl | hx
    ·exact hne _ _ h3 h4
    ·exact h2 x hx a es2 h3 h4
theorem RelAt.calledG{w0:Base}{st:St}{a:Act}{w w':World}{ω:Own}{τ:Nat→Nat×Value}(hrel:RelAt w0 st a w ω τ)(t0:Nat){hs:List HL}{rs:List AD}{v:Value}{H:Nat→Nat×Value}
  (hok:qcC hs=true) (hfit:qd4 rs=true) (htg:t0+10000≤giv) (hrange:∀h∈hs,¬(t0≤h.t∧h.t<t0+10000)) (hb:Bel ⟨w,fun b=>qaS hs ω b≠.imm,H⟩ w') (ωc:Own)
  (hc1:∀b,b<w.heap.size→qaS hs ω b=.imm→ωc b=.imm) (hc2:∀b,ωc b≠.imm→(∃t q,ωc b=.tok t q)∧∃arr ty,w'.heap[b]?=some (.cells arr ty (0,0))) (hc3:qcf w' ωc rs v)
  (vals:HL→Value) (hkept:∀h∈hs,∀es',h.post=some es'→Rep w' ωc (Tag.own (gTok h.i h.j)).R (.sl h.k es') (vals h)) (hval:∀h∈hs,HandAt w ω τ h (vals h))
  {tS kS:Nat} {esS:List (List D)} (hsub:SubAt w ω τ hs tS kS esS):
  ∃ω' τ',RelAt w0 (st.map (qdj hs t0 tS kS esS)) a w' ω' τ'∧SatP (Sat w' ω' τ') (resPV t0 rs) v:=by
 classical
 let ω':Own:=fun b=>if b<w.heap.size∧qaS hs ω b=.imm then qcB t0 (ω b) else qha hs t0 (ωc b)
 let τ':Nat→Nat×Value:=fun s=>if t0≤s∧s<t0+10000 then (hdrK rs (s-t0),hdrV rs v (s-t0)) else τ s
 have hold:∀b,b<w.heap.size→qaS hs ω b=.imm→ω' b=qcB t0 (ω b):=fun b hb h=>by simp only[ω'];rw[zp ⟨hb,h⟩]
 have hnew:∀b,ωc b≠.imm→ω' b=qha hs t0 (ωc b):=fun b hb=>by
  simp only[ω'];rw[zo];rintro⟨h1,h2⟩;exact hb (hc1 b h1 h2)
 have hblk:∀b,b<w.heap.size→qaS hs ω b=.imm→w'.heap[b]?=w.heap[b]?:=fun b hlt h=>hb.block b hlt (fun hn=>hn h)
 have himm:∀b,ω b=.imm→qaS hs ω b=.imm:=fun b h=>by simp only[qaS,h]
 have hboxI:∀b id,ω b=.box id→qaS hs ω b=.imm:=fun b id h=>by simp only[qaS,h]
 have htok:∀b s q,ω b=.tok s q→findH s q hs=none→qaS hs ω b=.imm:=fun b s q h h2=>by simp only[qaS,h,h2]
 have hτ:∀h∈hs,τ' h.t=τ h.t:=fun h hh=>by simp only[τ'];rw[zo (hrange h hh)]
 have keep:∀(g g':Tag) (b:Nat) (q:List (Nat×Nat)),g.mentH hs=false→qa2 t0 g=some g'→b<w.heap.size→g.R q (ω b)→g'.R q (ω' b)∧w'.heap[b]?=w.heap[b]?:=by
  intro g g' b q hm hg hlt hq;have hi:qaS hs ω b=.imm:=by
   cases g with
   | free=>exact himm b hq
   | own s=>exact htok b s q hq (qk8 hm q)
   | ro s=>
    rcases hq with h | ⟨q',h⟩
    ·exact himm b h
    ·exact htok b s q' h (qk8 hm q')
  refine⟨?_,hblk b hlt hi⟩;rw[hold b hlt hi];cases g with
  | free=>simp only[qa2,za]at hg;subst hg;simp only[Tag.R]at hq ⊢;rw[hq];rfl
  | own s=>
   simp only[Tag.R]at hq;simp only[qa2]at hg;rw[hq];simp only[qcB];split at hg
   ·simp only[za]at hg;subst hg;rw[zp ‹_›];rfl
   ·simp only[za]at hg;subst hg;rw[zo ‹_›];rfl
  | ro s=>
   simp only[Tag.R]at hq;simp only[qa2]at hg;split at hg
   ·simp only[za]at hg;subst hg;rcases hq with h | ⟨q',h⟩
    ·rw[h];rfl
    ·rw[h];simp only[qcB];rw[zp ‹_›];rfl
   ·simp only[za]at hg;subst hg;rcases hq with h | ⟨q',h⟩
    ·rw[h];exact .inl rfl
    ·rw[h];simp only[qcB];rw[zo ‹_›];exact .inr ⟨q',rfl⟩
 have khdr:∀(g g':Tag) (y:Nat×Value),qa2 t0 g=some g'→g.hdr τ y→g'.hdr τ' y:=by
  intro g g' y hg hy;cases g with
  | free=>simp only[qa2,za]at hg;subst hg;exact trivial
  | own s=>
   simp only[qa2]at hg;split at hg
   ·simp only[za]at hg;subst hg;exact trivial
   ·simp only[za]at hg;subst hg;simp only[Tag.hdr,τ']at hy ⊢;rw[zo ‹_›];exact hy
  | ro s=>
   simp only[qa2]at hg;split at hg
   ·simp only[za]at hg;subst hg;exact trivial
   ·simp only[za]at hg;subst hg;exact trivial
 have kbox:∀id b,ω b=.box id→ω' b=.box id∧w'.heap[b]?=w.heap[b]?:=by
  intro id b hbx;have hlt:=hrel.owned.lt (b:=b) (by simp[hbx]);have hi:=hboxI b id hbx;exact⟨by rw[hold b hlt hi,hbx];rfl,hblk b hlt hi⟩
 have kback:∀h∈hs,∀es',h.post=some es'→Rep w' ω' (fun q o=>o=.tok h.t (h.p.toList++q)) (.sl h.k es') (vals h):=by
  intro h hh es' he;refine (hkept h hh es' he).frame fun b q _ hq=>⟨?_,rfl⟩
  simp only[Tag.R]at hq;rw[hnew b (by rw[hq];simp),hq];simp only[qha];rw[zp (by simp[gTok]),qow hok hh]
 have hsat:∀l y,Sat w ω τ l y→Sat w' ω' τ' (qdj hs t0 tS kS esS l) y:=by
  intro l y hs';have plain:∀g k es,g.mentH hs=false→Sat w ω τ (.sl g k es) y→Sat w' ω' τ' (Leaf.re (qa2 t0) (fun _=>true) (.sl g k es)) y:=by
   intro g k es hm hsl;simp only[Leaf.re];cases hg:qa2 t0 g with
   | none=>exact trivial
   | some g'=>exact⟨hsl.1.frame fun b q hlt hq=>keep g g' b q hm hg hlt hq,khdr g g' _ hg hsl.2⟩
  cases l with
  | und=>exact trivial
  | v x=>exact hs'
  | sb c=>exact hs'
  | ptr id off=>
   obtain⟨b,h1,h2⟩:=hs';exact⟨b,(kbox id b h1).1,h2⟩
  | clo f ids=>
   obtain⟨bs,e,hn,hi⟩:=hs';simp only[qdj,Leaf.mentH0,zao,zci,Leaf.re];split
   ·refine⟨bs,e,hn,fun i id hid=>?_⟩;obtain⟨b,h1,h2⟩:=hi i id hid;exact⟨b,h1,(kbox id b h2).1⟩
   ·exact trivial
  | rp ds off=>
   obtain⟨b,e,hr⟩:=hs';exact⟨b,e,hr.frame fun b q hlt hq=>keep .free .free b q rfl rfl hlt hq⟩
  | fd d=>exact Rep.frame hs' fun b q hlt hq=>keep .free .free b q rfl rfl hlt hq
  | sv t k es=>exact⟨Rep.frame hs'.1 fun b q hlt hq=>keep .free .free b q rfl rfl hlt hq,fun ht=>(show τ' t=τ t by simp only[τ'];rw[zo (by omega)]).trans (hs'.2 ht)⟩
  | sn t i j k es m=>
   simp only[qdj];by_cases hm:Leaf.mentH0 hs (.sn t i j k es m)=true
   ·rw[zp hm];exact trivial
   ·rw[zo hm];simp only[zbt]at hm;replace hm:tokH hs t=false:=hm;simp only[Leaf.re];split
    ·rename_i t' hg;split
     ·rename_i ht;subst ht;obtain⟨u0,hu0,h1,hmm⟩:=hs';refine⟨u0,hu0,h1.frame fun c q hc hq=>keep (.own t') _ c _ hm hg hc hq,fun hh0=>?_⟩;obtain⟨kT,b,off,len,cap,arr,ty,fr,h2,h5,h3,h4⟩:=hmm hh0;have hlt:b<w.heap.size:=(zz.1 h3).1;have hk:=keep (.own t') _ b [] hm hg hlt h5;exact⟨kT,b,off,len,cap,arr,ty,fr,khdr _ _ _ hg h2,hk.1,hk.2.trans h3,h4⟩
     ·exact trivial
    ·exact trivial
  | np t vs=>
   simp only[qdj,Leaf.mentH0,zbb];exact trivial
  | ep g k es i j=>
   simp only[qdj];by_cases hm:Leaf.mentH0 hs (.ep g k es i j)=true
   ·rw[zp hm];exact trivial
   ·rw[zo hm];simp only[zbt]at hm;replace hm:g.mentH hs=false:=hm;obtain⟨b,off,cap,e,hi,hr,hh⟩:=hs';simp only[Leaf.re];cases hg:qa2 t0 g with
    | none=>exact trivial
    | some g'=>exact⟨b,off,cap,e,hi,hr.frame fun b q hlt hq=>keep g g' b q hm hg hlt hq,khdr g g' _ hg hh⟩
  | sl g k es=>
   cases g with
   | free=>exact plain .free k es rfl hs'
   | ro s=>
    simp only[qdj];by_cases hm:Leaf.mentH0 hs (.sl (.ro s) k es)=true
    ·rw[zp hm];exact trivial
    ·rw[zo hm];simp only[zbt]at hm;exact plain (.ro s) k es hm hs'
   | own s=>
    simp only[qdj];cases hf:qeP s hs with
    | none=>exact plain (.own s) k es (qox hf) hs'
    | some h=>
     obtain⟨hh,rfl⟩:=qoy hf;simp only;have hv:=hval h hh;have hdr:τ h.t=(k,y):=hs'.2;split
     ·
      rename_i es' hp he;have e1:=hv.root hp;rw[hdr]at e1;simp only[zd]at e1;obtain⟨rfl,e2⟩:=e1;have hr:=kback h hh es' he;rw[hp,←e2]at hr;exact⟨hr,by simp only[Tag.hdr];rw[hτ h hh,hdr]⟩
     ·exact trivial
     ·
      rename_i p hp;split
      ·rename_i htS;obtain⟨es0,y0,ds,a0,hs0,hds,hdl,rfl,hall⟩:=hsub.ex h hh p hp htS;have hdr0:τ tS=(kS,y0):=hs0.2;rw[←htS,hdr]at hdr0;simp only[zd]at hdr0;obtain⟨rfl,rfl⟩:=hdr0;obtain⟨hr0,_⟩:=hs0;have hlen:(es0.set a0 (qcg hs ds)).length=es0.length:=zn;have ha0:a0<es0.length:=(zk.1 hds).1;refine⟨?_,by simp only[Tag.hdr];rw[hτ h hh,hdr]⟩;generalize hy:y=yy at hr0;cases hr0 with
       | nil=>simp at ha0
       | row R k es0 b0 off cap arr ty fr us hbk hR hcp hsz hk hu hd=>
        subst hy;have hR0:ω b0=.tok h.t []:=by rw[htS];exact hR
        have hnofit:∀x∈hs,x.fit tS []=none:=by
         intro x hx;unfold HL.fit;split
         ·rename_i ext;cases hxp:x.p with
          | some q=>simp
          | none=>
           exfalso;have hne:HL.apart h x=true∨HL.apart x h=true∨h=x:=by
            rcases qos hok h hh x hx with e | e | e
            ·exact .inr (.inr e)
            ·exact .inl e
            ·exact .inr (.inl e)
           have hap:∀y z:HL,y.t=z.t→(y.p=none∨z.p=none)→HL.apart y z=true→False:=by
            intro y z e1 e2 e3;simp only[HL.apart,e1,zj,zbi,bne_self_eq_false,zao,false_or]at e3;rcases e2 with e2 | e2
            ·simp[e2]at e3
            ·rw[e2]at e3;cases hyp:y.p<;>simp[hyp]at e3
           rcases hne with e | e | e
           ·exact hap h x (by rw[ext,htS]) (.inr hxp) e
           ·exact hap x h (by rw[ext,htS]) (.inl hxp) e
           ·rw[←e,hp]at hxp;cases hxp
         ·rfl
        have hfn:findH tS [] hs=none:=by
         cases e:findH tS [] hs with
         | none=>rfl
         | some z=>
          obtain⟨g,q'⟩:=z;obtain⟨x,hx,hxf,_⟩:=qg9 e;rw[hnofit x hx]at hxf;cases hxf
        have hb0lt:b0<w.heap.size:=(zz.1 hbk).1;have hb0i:qaS hs ω b0=.imm:=htok b0 tS [] hR hfn;have hrangeS:¬(t0≤tS∧tS<t0+10000):=by rw[←htS];exact hrange h hh
        have hown0:∀b q,b<w.heap.size→ω b=.tok tS q→findH tS q hs=none→ω' b=.tok tS q∧w'.heap[b]?=w.heap[b]?:=by
         intro b q hlt hq hn;have hi:=htok b tS q hq hn;refine⟨?_,hblk b hlt hi⟩;rw[hold b hlt hi,hq];simp only[qcB];rw[zo hrangeS]
        have hold':∀x y d,qan es0 x y=some d→(∀z∈hs,z.p≠some (x,y))→Rep w' ω' (fun q=>(Tag.own tS).R ((x,y)::q)) d (us x y):=by
         intro x y d hc hz;refine (hd x y d hc).frame fun b q hlt hq=>?_
         refine hown0 b _ hlt hq ?_;cases e:findH tS ((x,y)::q) hs with
         | none=>rfl
         | some r=>
          obtain⟨g,q'⟩:=r;obtain⟨z,hz1,hzf,_⟩:=qg9 e;obtain⟨e1,e2⟩:=qou hzf;exfalso;cases hzp:z.p with
          | none=>
           have:=hnofit z hz1;unfold HL.fit at this;rw[zp e1,hzp]at this;simp at this
          | some r=>
           rw[hzp]at e2;simp only[zcp,List.cons_append,List.nil_append,zbr]at e2;exact hz z hz1 (by rw[hzp,←e2.1])
        have key:∀x y d,qan (es0.set a0 (qcg hs ds)) x y=some d→Rep w' ω' (fun q=>(Tag.own tS).R ((x,y)::q)) d (us x y):=by
         intro x y d hc;by_cases hx:x=a0
         ·subst hx;have hc2:(qcg hs ds)[y]?=some d:=by
           simpa[qan,zad,ha0]using hc
          rcases qk9 hc2 with⟨z,hz,a1,es',h1,h2,rfl⟩ | ⟨h1,h2⟩
          ·obtain⟨e1,e2,_⟩:=hall z hz _ h1;have e2:a1=x:=e2;subst e2;obtain⟨kT,b1,off1,len1,cap1,arr1,ty1,fr1,g1,g2,g3,g4⟩:=(hval z hz).cell _ _ h1;rw[e1,←htS,hdr]at g1;simp only[zd,Value.slice.injEq,za,Addr.mk.injEq]at g1;obtain⟨rfl,⟨rfl,rfl,_⟩,_,_⟩:=g1;rw[hbk]at g3;simp only[za,Obj.cells.injEq]at g3;obtain⟨rfl,_,_⟩:=g3;have hyd:y<ds.length:=by
            have:=(zk.1 hc2).1;rwa[qhb]at this
           have hcell:qan es0 a1 y=some ds[y]:=by simp[qan,hds,hyd]
           have hval2:us a1 y=vals z:=by
            have:=hu a1 y _ hcell;rw[g4]at this;exact (zx this).symm
           rw[hval2];have hr:=kback z hz es' h2;rw[h1,e1]at hr;exact hr
          ·have hcell:qan es0 x y=some d:=by simp[qan,hds,h1]
           refine hold' x y d hcell fun z hz hzp=>?_
           obtain⟨_,_,es',he⟩:=hall z hz _ hzp;exact h2 z hz x es' hzp he
         ·have hcell:qan es0 x y=some d:=by
           simp only[qan,zad]at hc;rw[zo (by omega)]at hc;exact hc
          refine hold' x y d hcell fun z hz hzp=>?_
          obtain⟨_,e2,_⟩:=hall z hz _ hzp;exact hx e2
        have hb1:=hown0 b0 [] hb0lt hR hfn;have:=Rep.row (w:=w') (ω:=ω') (Tag.own tS).R k (es0.set a0 (qcg hs ds)) b0 off cap arr ty fr us (hb1.2.trans hbk) hb1.1 (by rw[hlen];exact hcp) hsz
         (fun e he=>by
          rcases zbf he with h9 | rfl
          ·exact hk e h9
          ·rw[qhb];exact hdl)
         (fun x y d hc=>by
          have hxl:x<es0.length∧y<k:=by
           have hk':∀e∈es0.set a0 (qcg hs ds),e.length=k:=fun e he=>by
            rcases zbf he with h9 | rfl
            ·exact hk e h9
            ·rw[qhb];exact hdl
           have h9:x<(es0.set a0 (qcg hs ds)).length∧y<k:=by
            unfold qan at hc;cases e9:(es0.set a0 (qcg hs ds))[x]? with
            | none=>simp[e9]at hc
            | some row=>
             simp only[e9,zan]at hc;have hm:=hk' row (zw e9);exact⟨(zk.1 e9).1,by rw[←hm];exact (zk.1 hc).1⟩
           rw[hlen]at h9;exact h9
          have hrow:(es0[x]'hxl.1).length=k:=hk _ (zax hxl.1);exact hu x y ((es0[x]'hxl.1)[y]'(by omega)) (by simp[qan,hxl.1,hrow,hxl.2]))
         key
        rw[hlen]at this;rw[htS];exact this
      ·exact trivial
 have cell:∀(n:Nat) (d:D) (u:Value),n<10000→hdrV rs v n=u→(∀k es,d=.sl k es→hdrK rs n=k)→Rep w' ωc (Tag.own n).R d u→Sat w' ω' τ' (d.resLeaf (t0+n)) u:=by
  intro n d u hn hv hk hr;cases d with
  | v x=>
   have e:u=x:=by cases hr;rfl
   subst e;unfold D.resLeaf;split
   ·rename_i h;cases h;exact rfl
   ·rename_i h;cases h;exact rfl
   ·rename_i h;cases h
   ·exact trivial
   ·exact trivial
  | ptr ds=>exact trivial
  | cl g caps=>exact trivial
  | sl k es=>
   refine⟨hr.frame fun b q hlt hq=>⟨?_,rfl⟩,?_⟩
   ·simp only[Tag.R]at hq ⊢;rw[hnew b (by rw[hq];simp),hq];simp only[qha];rw[zo (by simp only[giv];omega)]
   ·simp only[Tag.hdr,τ'];rw[zp (by omega),show t0+n-t0=n by omega,hv,hk k es rfl]
 have cellA:∀(r:Nat) (ad:AD) (y:Value),r<100→(∀ds,ad=.agg ds→ds.length<100)→rs[r]?=some ad→(∀j,j<100→hdrV rs v (100*r+j)=y.cells.getD j undef)→qb4 w' ωc r ad y→SatA (Sat w' ω' τ') (ad.res (t0+100*r)) y:=by
  intro r ad y hr hds hrs hv hcr;have hkk:∀j,j<100→hdrK rs (100*r+j)=(match AD.cell j ad with | some (.sl k _)=>k | _=>0):=by
   intro j hj;unfold hdrK;rw[show (100*r+j) / 100=r by omega,show (100*r+j) % 100=j by omega,hrs];rfl
  cases ad with
  | one d=>
   have h1:=hcr.oneCell;have h2:=hv 0 (by omega);rw[qg4 h1]at h2;have:=cell (100*r) d y (by omega) (by simpa using h2) (fun k es e=>by
    have:=hkk 0 (by omega);rw[zbj]at this;rw[this,e];rfl) hcr
   exact this
  | agg ds=>
   obtain⟨vs,rfl,hn,hj⟩:=hcr;refine⟨vs,rfl,by rw[qf1];exact hn,fun j l hl=>?_⟩;rw[qg8,zc]at hl;obtain⟨d,hd,rfl⟩:=hl;obtain⟨u,hu,hru⟩:=hj j d hd;have hjl:j<100:=by
    have:=(zk.1 hd).1;have:=hds ds rfl;omega
   refine⟨u,hu,?_⟩;have:=cell (100*r+j) d u (by omega) (by rw[hv j hjl];simp[Value.cells,zl,hu]) (fun k es e=>by
    rw[hkk j hjl];simp only[AD.cell,hd,e]) hru
   rw[show t0+100*r+(0+j)=t0+(100*r+j) by omega];exact this
 simp only[qd4,zj,zi]at hfit;have hds:∀(r:Nat) (ad:AD),rs[r]?=some ad→∀ds,ad=.agg ds→ds.length<100:=by
  intro r ad hr ds e;have:=zM.1 hfit.2 ad (zw hr);subst e;simpa using this
 have hmine:∀b,ω b≠.imm→w0.mine b:=fun b h=>(hrel.owned b h).1
 have hgm:∀b,qaS hs ω b≠.imm→ω b≠.imm:=fun b h e=>h (himm b e)
 refine⟨ω',τ',hrel.turn _ hsat ?_ ?_ (fun id b hbx=>kbox id b hbx) ?_ (fun s hs=>by simp only[τ'];rw[zo (by omega)]),?_⟩
 ·refine⟨hb.os.trans hrel.below.os,hb.tape.trans hrel.below.tape,hb.output.trans hrel.below.output,zce hrel.below.size hb.size,fun k hk hg=>?_,fun hs=>zce (hrel.below.drawn hs) (hb.drawn hs),hb.laid,hrel.below.free⟩;have hk2:k<w.heap.size:=zbz hk hrel.below.size;have hi:qaS hs ω k=.imm:=by
   cases e:qaS hs ω k with
   | imm=>rfl
   | _=>
    have:=hmine k (hgm k (by rw[e];simp));rcases this with h | h
    ·omega
    ·exact absurd h hg
  exact (hblk k hk2 hi).trans (hrel.below.block k hk hg)
 ·intro b hbi;by_cases hc:b<w.heap.size∧qaS hs ω b=.imm
  ·rw[hold b hc.1 hc.2]at hbi;have h2:ω b≠.imm:=fun e=>by rw[e]at hbi;exact hbi rfl
   obtain⟨h3,arr,ty,h4⟩:=hrel.owned b h2;exact⟨h3,arr,ty,(hblk b hc.1 hc.2).trans h4⟩
  ·have h2:ωc b≠.imm:=fun e=>by
    simp only[ω']at hbi;rw[zo hc,e]at hbi;exact hbi rfl
   obtain⟨_,arr,ty,h4⟩:=hc2 b h2;refine⟨?_,arr,ty,h4⟩;rcases zbp b w.heap.size with hlt | hge
   ·exact hmine b (hgm b fun e=>hc ⟨hlt,e⟩)
   ·exact .inl (by have:=hrel.below.size;omega)
 ·intro id b hbx;by_cases hc:b<w.heap.size∧qaS hs ω b=.imm
  ·rw[hold b hc.1 hc.2]at hbx;cases e:ω b with
   | imm=>rw[e]at hbx;cases hbx
   | box i=>rw[e]at hbx;exact hbx
   | tok s q=>rw[e]at hbx;simp only[qcB]at hbx;split at hbx<;>cases hbx
  ·simp only[ω']at hbx;rw[zo hc]at hbx;cases e:ωc b with
   | imm=>rw[e]at hbx;cases hbx
   | box i=>rw[e]at hbx;cases hbx
   | tok s q=>
    rw[e]at hbx;simp only[qha]at hbx;split at hbx
    ·split at hbx<;>cases hbx
    ·cases hbx
 ·cases rs with
  | nil=>
   obtain⟨vs,rfl,hn,_⟩:=hc3;exact⟨vs,rfl,hn,fun i a ha=>by simp[qc2]at ha⟩
  | cons ad rest=>
   cases rest with
   | nil=>
    have:=cellA 0 ad v (by omega) (hds 0 ad rfl) rfl (fun j hj=>by
     unfold hdrV;simp only[Nat.mul_zero,zv];rw[zcu hj]) hc3
    exact this
   | cons ad2 rest=>
    obtain⟨vs,rfl,hn,hv⟩:=hc3;refine⟨vs,rfl,by rw[qiP];exact hn,fun i a ha=>?_⟩;rw[qiO,zc]at ha;obtain⟨ad',h1,rfl⟩:=ha;obtain⟨y,hy,hcy⟩:=hv i ad' h1;have hil:i<100:=by
     have:=(zk.1 h1).1;omega
    refine⟨y,hy,?_⟩;have:=cellA i ad' y hil (hds i ad' h1) h1 (fun j hj=>by
     unfold hdrV;simp only;rw[show (100*i+j) / 100=i by omega,show (100*i+j) % 100=j by omega];simp[zl,hy]) hcy
    rw[zv];exact this
end Go.Sx
namespace Go.Sx
open Go.RowKit
theorem qoz{w:World}{ω:Own}{τ:Nat→Nat×Value}{hs:List HL}{l:Leaf}{d:D}{y:Value}(h:l.argD0=some d)(hm:l.mentH0 hs=false)(hs':Sat w ω τ l y):Rep w (qaS hs ω) Tag.free.R d y:=by
 have himm:∀b,ω b=.imm→qaS hs ω b=.imm:=fun b h=>by simp only[qaS,h]
 have htok:∀b s q,ω b=.tok s q→tokH hs s=false→qaS hs ω b=.imm:=fun b s q h h2=>by simp only[qaS,h,qk8 h2]
 have tag:∀(g:Tag) (b:Nat) (q:List (Nat×Nat)),g.mentH hs=false→g.R q (ω b)→qaS hs ω b=.imm:=by
  intro g b q hg hq;cases g with
  | free=>exact himm b hq
  | own s=>exact htok b s q hq hg
  | ro s=>
   rcases hq with h | ⟨q',h⟩
   ·exact himm b h
   ·exact htok b s q' h hg
 cases l with
 | und=>cases h
 | v x=>
  simp only[Leaf.argD0]at h;split at h
  ·simp only[za]at h;subst h;have:y=x:=hs';subst this;exact .v _ _ ‹_›
  ·cases h
 | sb c=>
  simp only[Leaf.argD0,za]at h;subst h;have:y=.bool c:=hs';subst this;exact .v _ _ rfl
 | sl t k es=>simp only[Leaf.argD0,za]at h;subst h;exact hs'.1.frame fun b q _ hq=>⟨tag t b q hm hq,rfl⟩
 | ptr=>cases h
 | ep=>cases h
 | clo=>cases h
 | np=>cases h
 | rp ds off=>
  simp only[Leaf.argD0]at h;split at h
  ·rename_i ho;subst ho;simp only[za]at h;subst h;obtain⟨b,rfl,hr⟩:=hs';exact hr.frame fun b q _ hq=>⟨himm b hq,rfl⟩
  ·cases h
 | fd d'=>simp only[Leaf.argD0,za]at h;subst h;exact Rep.frame hs' fun b q _ hq=>⟨himm b hq,rfl⟩
 | sv t k es=>simp only[Leaf.argD0,za]at h;subst h;exact Rep.frame hs'.1 fun b q _ hq=>⟨himm b hq,rfl⟩
 | sn t i j k es m=>
  obtain⟨u,hu,hr,_⟩:=hs';cases m with
  | at_ x z=>cases h
  | here=>simp only[Leaf.argD0,za]at h;subst h;have:y=u:=hu;subst this;exact hr.frame fun b q _ hq=>⟨htok b t _ hq hm,rfl⟩
  | away=>simp only[Leaf.argD0,za]at h;subst h;have:y=u:=hu;subst this;exact hr.frame fun b q _ hq=>⟨htok b t _ hq hm,rfl⟩
theorem qoA{w:World}{ω:Own}{τ:Nat→Nat×Value}{bs:Boxes}{hs:List HL}(hb:qeO w ω τ bs){id b:Nat}{d:D}(h:boxD bs id=some d)(hm:(match qap id bs with | some ls=>ls.any (Leaf.mentH0 hs) | none=>true)=false)(ho:ω b=.box id):
  Rep w (qaS hs ω) Tag.free.R d (ptrTo b):=by
 unfold boxD at h;cases e:qap id bs with
 | none=>simp[e]at h
 | some ls=>
  rw[e]at hm;simp only[zP,zbt]at hm;simp only[e,zan,zc]at h;obtain⟨ds,h1,rfl⟩:=h;obtain⟨b',arr,ty,hb',hu,hh,hs'⟩:=hb id ls e;have:=hu b ho;subst this;obtain⟨h2,h3⟩:=qct h1;have cell:∀j d,ds[j]?=some d→arr[j]?=some (arr.getD j undef)∧Rep w (qaS hs ω) Tag.free.R d (arr.getD j undef):=by
   intro j d hd;obtain⟨l,hl,hl2⟩:=h3 j d hd;obtain⟨u,hu1,hu2⟩:=hs'.2 j l hl;have e2:arr.getD j undef=u:=by simp[zl,hu1]
   rw[e2];exact⟨hu1,qoz hl2 (hm l (zw hl)) hu2⟩
  exact Rep.ptr _ ds b arr ty (0,0) (fun j=>arr.getD j undef) hh (by show qaS hs ω b=.imm;simp only[qaS,ho]) (by have:=hs'.1;omega) (fun j d hd=>(cell j d hd).1) (fun j d hd=>(cell j d hd).2.frame fun _ _ _ h=>⟨h,rfl⟩)
theorem qu7{w:World}{ω:Own}{τ:Nat→Nat×Value}{bs:Boxes}{hs:List HL}(hb:qeO w ω τ bs){l:Leaf}{d:D}{y:Value}(h:l.argD bs=some d)(hm:l.mentH bs hs=false)(hs':Sat w ω τ l y):
  Rep w (qaS hs ω) Tag.free.R d y:=by
 unfold Leaf.argD at h;split at h
 ·rename_i id off;split at h
  ·rename_i ho;subst ho;obtain⟨b,h1,rfl⟩:=hs';exact qoA hb h hm h1
  ·cases h
 ·rename_i g ids;rw[zc]at h;obtain⟨ds,h1,rfl⟩:=h;obtain⟨bl,rfl,hn,hi⟩:=hs';obtain⟨h2,h3⟩:=qct h1;simp only[Leaf.mentH,zP,zbt]at hm;have cell:∀j d,ds[j]?=some d→(bl.map ptrTo).toArray[j]?=some ((bl.map ptrTo).toArray.getD j undef)∧Rep w (qaS hs ω) Tag.free.R d ((bl.map ptrTo).toArray.getD j undef):=by
   intro j d hd;obtain⟨id,hid,hd2⟩:=h3 j d hd;obtain⟨b,hb1,hb2⟩:=hi j id hid;have e1:(bl.map ptrTo).toArray[j]?=some (ptrTo b):=by simp[hb1]
   have e2:(bl.map ptrTo).toArray.getD j undef=ptrTo b:=by rw[zl,e1];rfl
   rw[e2];exact⟨e1,qoA hb hd2 (hm id (zw hid)) hb2⟩
  exact Rep.cl _ g ds _ (fun j=>(bl.map ptrTo).toArray.getD j undef) (by simp;omega) (fun j d hd=>(cell j d hd).1) (fun j d hd=>(cell j d hd).2.frame fun _ _ _ h=>⟨h,rfl⟩)
 ·rename_i hn1 hn2;have hm0:l.mentH0 hs=false:=by
   unfold Leaf.mentH at hm;split at hm
   ·exact absurd rfl (hn1 _ _)
   ·exact absurd rfl (hn2 _ _)
   ·exact hm
  exact qoz h hm0 hs'
structure CellH (w:World) (ω:Own) (τ:Nat→Nat×Value) (hs:List HL) (i j:Nat) (c:GC) (hx:List HL) (y:Value):Prop where
 gc:GcOk w (qaS hs ω) (gTok i j) c y
 at_:∀h∈hx,h.i=i∧h.j=j∧HandAt w ω τ h y∧c=.gv h.k h.es h.post
 one:y.oneCell'=true
theorem qla{w:World}{ω:Own}{τ:Nat→Nat×Value}{bs:Boxes}{hs:List HL}(hok:qcC hs=true)(hb:qeO w ω τ bs){i j:Nat}{m:Mk}{l:Leaf}{c:GC}{hx:List HL}{rx:List Leaf}{y:Value}
  (h:cellG bs i j m l=some (c,hx,rx)) (hsub:∀x∈hx,x∈hs) (hro:∀x∈rx,x.mentH bs hs=false) (hs':Sat w ω τ l y):CellH w ω τ hs i j c hx y:=by
 unfold cellG at h;split at h
 ·rw[zc]at h;obtain⟨d,h1,h⟩:=h;simp only[zd]at h;obtain⟨rfl,rfl,rfl⟩:=h;have:=qu7 hb h1 (hro _ (by simp)) hs';exact⟨this,fun x hx=>by simp at hx,this.oneCell⟩
 ·rename_i post t k es;simp only[za,zd]at h;obtain⟨rfl,rfl,rfl⟩:=h;have hmem:=hsub _ (zm);refine⟨hs'.1.frame fun b q _ hq=>⟨?_,rfl⟩,fun x hx=>?_,hs'.1.oneCell⟩
  ·simp only[Tag.R]at hq ⊢;simp only[qaS,hq];have:=qk7 (t:=t) (q:=q) (q':=q) hok hmem (qov ⟨i,j,t,none,k,es,post⟩ q);simp only[this]
  ·simp only[List.mem_singleton]at hx;subst hx;exact⟨rfl,rfl,⟨hs'.1.frame fun b q _ hq=>⟨hq,rfl⟩,fun _=>hs'.2,fun a b e=>by cases e⟩,rfl⟩
 ·rename_i post t a b k es;simp only[za,zd]at h;obtain⟨rfl,rfl,rfl⟩:=h;have hmem:=hsub _ (zm);obtain⟨u0,hu0,hs'⟩:=hs';have:y=u0:=hu0;subst this;refine⟨hs'.1.frame fun c q _ hq=>⟨?_,rfl⟩,fun x hx=>?_,hs'.1.oneCell⟩
  ·simp only[Tag.R]at hq ⊢;simp only[qaS,hq];have:=qk7 (t:=t) (q:=(a,b)::q) (q':=q) hok hmem (qov ⟨i,j,t,some (a,b),k,es,post⟩ q);simp only[this]
  ·simp only[List.mem_singleton]at hx;subst hx;refine⟨rfl,rfl,⟨hs'.1.frame fun b q _ hq=>⟨hq,rfl⟩,fun e=>(by cases e),fun a' b' e=>?_⟩,rfl⟩;simp only[za,zd]at e;obtain⟨rfl,rfl⟩:=e;exact hs'.2 rfl
 ·cases h
theorem qoB{bs:Boxes}{i:Nat}:∀{ms:List Mk} {ls:List Leaf} {j:Nat} {cs:List GC} {hx:List HL} {rx:List Leaf},qcR bs i j ms ls=some (cs,hx,rx)→cs.length=ls.length
 | [],[],j,cs,hx,rx,h=>by simp only[qcR,za,zd]at h;obtain⟨rfl,_,_⟩:=h;rfl
 | m::ms,l::ls,j,cs,hx,rx,h=>by
  simp only[qcR]at h;split at h
  ·rename_i c h1 r1 cs1 hs1 rs1 e1 e2;simp only[za,zd]at h;obtain⟨rfl,_,_⟩:=h;simp[qoB e2]
  ·cases h
 | [],_::_,j,cs,hx,rx,h=>by simp[qcR]at h
 | _::_,[],j,cs,hx,rx,h=>by simp[qcR]at h
theorem qoC{bs:Boxes}{i:Nat}:∀{ms:List Mk} {ls:List Leaf} {j:Nat} {cs:List GC} {hx:List HL} {rx:List Leaf},qcR bs i j ms ls=some (cs,hx,rx)→
  (∀(x:Nat) (c:GC),cs[x]?=some c→∃l m h1 r1,ls[x]?=some l∧cellG bs i (j+x) m l=some (c,h1,r1)∧(∀z∈h1,z∈hx)∧(∀z∈r1,z∈rx))∧
  (∀h∈hx,∃(x:Nat) (c:GC) (l:Leaf) (m:Mk) (h1:List HL) (r1:List Leaf),cs[x]?=some c∧ls[x]?=some l∧cellG bs i (j+x) m l=some (c,h1,r1)∧h∈h1∧(∀z∈h1,z∈hx)∧(∀z∈r1,z∈rx))
 | [],[],j,cs,hx,rx,h=>by
  simp only[qcR,za,zd]at h;obtain⟨rfl,rfl,rfl⟩:=h;exact⟨fun x c hc=>by simp at hc,fun h hh=>by simp at hh⟩
 | m::ms,l::ls,j,cs,hx,rx,h=>by
  simp only[qcR]at h;split at h
  ·rename_i c h1 r1 cs1 hs1 rs1 e1 e2;simp only[za,zd]at h;obtain⟨rfl,rfl,rfl⟩:=h;obtain⟨k1,k2⟩:=qoC e2;refine⟨fun x c' hc=>?_,fun z hz=>?_⟩
   ·cases x with
    | zero=>
     simp only[zag,za]at hc;subst hc;exact⟨l,m,h1,r1,rfl,e1,fun z hz=>zI _ hz,fun z hz=>zI _ hz⟩
    | succ x=>
     obtain⟨l',m',h2,r2,g1,g2,g3,g4⟩:=k1 x c' (by simpa using hc);exact⟨l',m',h2,r2,by simpa using g1,by rw[show j+(x+1)=j+1+x by omega];exact g2,fun z hz=>zJ _ (g3 z hz),fun z hz=>zJ _ (g4 z hz)⟩
   ·rcases zaz.1 hz with hz | hz
    ·exact⟨0,c,l,m,h1,r1,rfl,rfl,e1,hz,fun z hz=>zI _ hz,fun z hz=>zI _ hz⟩
    ·obtain⟨x,c',l',m',h2,r2,g0,g1,g2,g5,g3,g4⟩:=k2 z hz;exact⟨x+1,c',l',m',h2,r2,by simpa using g0,by simpa using g1,by rw[show j+(x+1)=j+1+x by omega];exact g2,g5,fun z hz=>zJ _ (g3 z hz),fun z hz=>zJ _ (g4 z hz)⟩
  ·cases h
 | [],_::_,j,cs,hx,rx,h=>by simp[qcR]at h
 | _::_,[],j,cs,hx,rx,h=>by simp[qcR]at h
structure ArgH (w:World) (ω:Own) (τ:Nat→Nat×Value) (hs:List HL) (i:Nat) (ga:GA) (hx:List HL) (y:Value):Prop where
 gaok:GaOk w (qaS hs ω) i ga y
 at_:∀h∈hx,h.i=i∧HandAt w ω τ h (cellOf y h.j)∧ga.cell h.j=some (.gv h.k h.es h.post)
theorem qoD{w:World}{ω:Own}{τ:Nat→Nat×Value}{bs:Boxes}{hs:List HL}(hok:qcC hs=true)(hb:qeO w ω τ bs){i:Nat}{ms:List Mk}{p:PV}{ga:GA}{hx:List HL}{rx:List Leaf}{y:Value}
  (h:argG bs i ms p=some (ga,hx,rx)) (hsub:∀x∈hx,x∈hs) (hro:∀x∈rx,x.mentH bs hs=false) (hs':SatP (Sat w ω τ) p y):ArgH w ω τ hs i ga hx y:=by
 unfold argG at h;split at h
 ·rename_i l;split at h
  ·rename_i m;rw[zc]at h;obtain⟨⟨c,h1,r1⟩,e,h⟩:=h;simp only[zd]at h;obtain⟨rfl,rfl,rfl⟩:=h;have:=qla hok hb e hsub hro hs';refine⟨this.gc,fun x hx=>?_⟩;obtain⟨e1,e2,e3,e4⟩:=this.at_ x hx;have ey:cellOf y x.j=y:=by rw[e2,cellOf,qg4 this.one];rfl
   rw[ey];exact⟨e1,e3,by simp[GA.cell,e2,e4]⟩
  ·cases h
 ·rename_i ls;rw[zc]at h;obtain⟨⟨cs,h1,r1⟩,e,h⟩:=h;simp only[zd]at h;obtain⟨rfl,rfl,rfl⟩:=h;obtain⟨us,rfl,hn,hu⟩:=hs';obtain⟨k1,k2⟩:=qoC e;refine⟨⟨us,rfl,by rw[qoB e];exact hn,fun x c hc=>?_⟩,fun z hz=>?_⟩
  ·obtain⟨l,m,h2,r2,g1,g2,g3,g4⟩:=k1 x c hc;obtain⟨u,hu1,hu2⟩:=hu x l g1;rw[zv]at g2;exact⟨u,hu1,(qla hok hb g2 (fun z hz=>hsub z (g3 z hz)) (fun z hz=>hro z (g4 z hz)) hu2).gc⟩
  ·obtain⟨x,c,l,m,h2,r2,g0,g1,g2,g5,g3,g4⟩:=k2 z hz;obtain⟨u,hu1,hu2⟩:=hu x l g1;rw[zv]at g2;obtain⟨e1,e2,e3,e4⟩:=(qla hok hb g2 (fun z hz=>hsub z (g3 z hz)) (fun z hz=>hro z (g4 z hz)) hu2).at_ z g5;refine⟨e1,?_,by simp only[GA.cell,e2,g0,e4]⟩;have:cellOf (.agg us) z.j=u:=by simp[cellOf,Value.cells,e2,zl,hu1]
   rw[this];exact e3
 ·cases h
theorem qoE{bs:Boxes}:∀{mss:List (List Mk)} {ps:List PV} {i:Nat} {gs:List GA} {hx:List HL} {rx:List Leaf},argsG bs i mss ps=some (gs,hx,rx)→gs.length=ps.length∧
  (∀(x:Nat) (ga:GA),gs[x]?=some ga→∃p ms h1 r1,ps[x]?=some p∧argG bs (i+x) ms p=some (ga,h1,r1)∧(∀z∈h1,z∈hx)∧(∀z∈r1,z∈rx))∧
  (∀h∈hx,∃(x:Nat) (ga:GA) (p:PV) (ms:List Mk) (h1:List HL) (r1:List Leaf),gs[x]?=some ga∧ps[x]?=some p∧argG bs (i+x) ms p=some (ga,h1,r1)∧h∈h1∧(∀z∈h1,z∈hx)∧(∀z∈r1,z∈rx))
 | [],[],i,gs,hx,rx,h=>by
  simp only[argsG,za,zd]at h;obtain⟨rfl,rfl,rfl⟩:=h;exact⟨rfl,fun x c hc=>by simp at hc,fun h hh=>by simp at hh⟩
 | m::ms,l::ls,i,gs,hx,rx,h=>by
  simp only[argsG]at h;split at h
  ·rename_i c h1 r1 cs1 hs1 rs1 e1 e2;simp only[za,zd]at h;obtain⟨rfl,rfl,rfl⟩:=h;obtain⟨k0,k1,k2⟩:=qoE e2;refine⟨by simp[k0],fun x c' hc=>?_,fun z hz=>?_⟩
   ·cases x with
    | zero=>
     simp only[zag,za]at hc;subst hc;exact⟨l,m,h1,r1,rfl,e1,fun z hz=>zI _ hz,fun z hz=>zI _ hz⟩
    | succ x=>
     obtain⟨l',m',h2,r2,g1,g2,g3,g4⟩:=k1 x c' (by simpa using hc);exact⟨l',m',h2,r2,by simpa using g1,by rw[show i+(x+1)=i+1+x by omega];exact g2,fun z hz=>zJ _ (g3 z hz),fun z hz=>zJ _ (g4 z hz)⟩
   ·rcases zaz.1 hz with hz | hz
    ·exact⟨0,c,l,m,h1,r1,rfl,rfl,e1,hz,fun z hz=>zI _ hz,fun z hz=>zI _ hz⟩
    ·obtain⟨x,c',l',m',h2,r2,g0,g1,g2,g5,g3,g4⟩:=k2 z hz;exact⟨x+1,c',l',m',h2,r2,by simpa using g0,by simpa using g1,by rw[show i+(x+1)=i+1+x by omega];exact g2,g5,fun z hz=>zJ _ (g3 z hz),fun z hz=>zJ _ (g4 z hz)⟩
  ·cases h
 | [],_::_,i,gs,hx,rx,h=>by simp[argsG]at h
 | _::_,[],i,gs,hx,rx,h=>by simp[argsG]at h
def qiQ:List HL→Option (Nat×Nat)
 | []=>none
 | h::r=>match h.p with | some p=>some (h.t,p.1) | none=>qiQ r
theorem qoF:∀{hs:List HL},qiQ hs=none→∀h∈hs,h.p=none
 | [],_,h,hh=>by cases hh
 | x::r,e,h,hh=>by
  simp only[qiQ]at e;split at e
  ·cases e
  ·rename_i hp;rcases zL.1 hh with rfl | hh
   ·exact hp
   ·exact qoF e h hh
def qhc(a:Nat):List HL→List Prop
 | []=>[]
 | h::r=>match h.p with | some p=>(p.1=a)::qhc a r | none=>qhc a r
theorem qlb{a:Nat}:∀{hs:List HL},Obs (qhc a hs)→∀h∈hs,∀p,h.p=some p→p.1=a
 | [],_,h,hh,_,_=>by cases hh
 | x::r,ho,h,hh,p,hp=>by
  simp only[qhc]at ho;split at ho
  ·rename_i q hq;rcases zL.1 hh with rfl | hh
   ·rw[hp]at hq;rw[zx hq];exact ho.1
   ·exact qlb ho.2 h hh p hp
  ·rename_i hq;rcases zL.1 hh with rfl | hh
   ·rw[hp]at hq;cases hq
   ·exact qlb ho h hh p hp
def qlc(st:St)(hs:List HL)(src:Nat)(ds:List D):Option (Nat×Nat×List (List D)×List Prop):=
 match qiQ hs with
 | none=>some (0,0,[],[])
 | some (t,a)=>
  match (st.env.getD src .und).leaf with
  | some (.sl (.own s) k es)=>
   if s=t∧ds.length=k∧hs.all (fun h=>match h.p with | some _=>h.t==t&&h.post.isSome | none=>true)=true then
    some (t,k,es.set a (qcg hs ds),(es[a]?=some ds)::qhc a hs)
   else none
  | _=>none
theorem qu8{w0:Base}{st:St}{a:Act}{w:World}{ω:Own}{τ:Nat→Nat×Value}(hrel:RelAt w0 st a w ω τ){hs:List HL}{src:Nat}{ds:List D}{t k:Nat}{es:List (List D)}{obs:List Prop}
  (h:qlc st hs src ds=some (t,k,es,obs)) (ho:Obs obs):SubAt w ω τ hs t k es:=by
 unfold qlc at h;split at h
 ·rename_i hn;exact⟨fun x hx p hp _=>by rw[qoF hn x hx]at hp;cases hp⟩
 ·rename_i t' a' hf;split at h
  ·rename_i s k' es' hl;split at h
   ·rename_i hc;obtain⟨rfl,hdl,hall⟩:=hc;simp only[za,zd]at h;obtain⟨rfl,rfl,rfl,rfl⟩:=h;rw[zM]at hall;refine⟨fun x hx p hp _=>?_⟩;have hsl:∃y,Sat w ω τ (.sl (.own s) k' es') y:=by
     rw[zN]at hl;cases e:st.env[src]? with
     | none=>rw[e]at hl;simp[PV.leaf]at hl
     | some p=>
      rw[e]at hl;obtain⟨v,_,h2⟩:=hrel.env src p e;exact⟨v,PV.leaf_sat hl h2⟩
    obtain⟨y,hy⟩:=hsl;refine⟨es',y,ds,a',hy,ho.1,hdl,rfl,fun z hz q hq=>?_⟩;have h1:=hall z hz;simp only[hq,zj,zE,zaj]at h1;exact⟨h1.1,qlb ho.2 z hz q hq,h1.2⟩
   ·cases h
  ·cases h
def qld(P:Program)(st:St)(d:Option Nat)(f:FuncId)(args:List Operand)(ans:List Ans):Option (St×List Ans×List Prop):=
 match ans with
 | .resG pat src ds rs::r=>
  match argsG st.boxes 0 pat (args.map st.ev) with
  | some (gs,hs,ros)=>
   match qlc st hs src ds with
   | some (tS,kS,esS,obs)=>
    let t0:=10000*(d.getD 0+1)
    if qaT P f=true∧qd4 rs=true∧t0+10000≤giv∧qcC hs=true∧ros.all (fun l=>!(l.mentH st.boxes hs))=true∧hs.all (fun h=>!(decide (t0≤h.t)&&decide (h.t<t0+10000)))=true then
     let st':=st.map (qdj hs t0 tS kS esS)
     match d with
     | some d=>some (⟨st'.env.set d (resPV t0 rs),st'.boxes⟩,r,RetG P f gs rs::obs)
     | none=>some (st',r,RetG P f gs rs::obs)
    else none
   | none=>none
  | none=>none
 | _=>none
theorem qu9{P:Program}{w0:Base}{st st':St}{a:Act}{w:World}{ω:Own}{τ:Nat→Nat×Value}{dst:Option Nat}{f:FuncId}{args:Array Operand}{ts:Array TypeId}{type:TypeId}{pos:String}{after:Array Edge}{guard:Option (Nat×Bool)}{ans ans':List Ans}{obs:List Prop}
  (hrel:RelAt w0 st a w ω τ) (h:qld P st dst f args.toList ans=some (st',ans',obs)) (ho:Obs obs) {K:Act→World→Prop} {Q:Exit→Act→World→Prop} (hK:∀a' w',Rel w0 st' a' w'→K a' w'):
  Oper.wp P ⟨dst,.call ⟨.value (.func f),args,ts⟩,type,pos,after,guard⟩ a w K Q:=by
 unfold qld at h;split at h
 ·rename_i pat src ds rs r;split at h
  ·rename_i gs hs ros hargs;split at h
   ·rename_i tS kS esS obs1 hsub;simp only at h;split at h
    ·rename_i hc;obtain⟨hcan,hfit,htg,hok,hros,hrng⟩:=hc;rw[zM]at hros hrng;have hros':∀l∈ros,l.mentH st.boxes hs=false:=fun l hl=>by simpa using hros l hl
     have hrng':∀h∈hs,¬(10000*(dst.getD 0+1)≤h.t∧h.t<10000*(dst.getD 0+1)+10000):=fun h hh=>by
      have:=hrng h hh;simp only[zS,Bool.and_eq_false_iff,zf]at this;omega
     obtain⟨hlen,k1,k2⟩:=qoE hargs;have hval:∀(x:Nat) (p:PV),(args.toList.map st.ev)[x]?=some p→∃v,(args.map a.eval)[x]?=some v∧SatP (Sat w ω τ) p v:=by
      intro x p hp;rw[zr,zc]at hp;obtain⟨o,h1,rfl⟩:=hp;refine⟨a.eval o,?_,hrel.ev o⟩;rw[zco];rw[zH]at h1;rw[h1];rfl
     have hgas:GasOk w (qaS hs ω) gs (args.map a.eval):=by
      refine⟨fun b hb=>?_,by simp[hlen],fun x ga hx=>?_⟩
      ·have hω:ω b≠.imm:=fun e=>hb (by simp only[qaS,e])
       obtain⟨_,arr,ty,h4⟩:=hrel.owned b hω;refine⟨?_,arr,ty,h4⟩;simp only[qaS]at hb ⊢;cases e:ω b with
       | imm=>simp[e]at hb
       | box id=>simp[e]at hb
       | tok t q=>
        simp only[e]at hb ⊢;cases e2:findH t q hs with
        | none=>simp[e2]at hb
        | some z=>
         obtain⟨g,q'⟩:=z;obtain⟨y,_,_,rfl⟩:=qg9 e2;exact⟨_,q',rfl,by simp[gTok]⟩
      ·obtain⟨p,ms,h1,r1,g1,g2,g3,g4⟩:=k1 x ga hx;obtain⟨v,hv,hs2⟩:=hval x p g1;rw[zv]at g2;exact⟨v,hv,(qoD hok hrel.boxes g2 g3 (fun z hz=>hros' z (g4 z hz)) hs2).gaok⟩
     have hat:∀h∈hs,HandAt w ω τ h (cellOf ((args.map a.eval).getD h.i undef) h.j)∧∃ga,gs[h.i]?=some ga∧ga.cell h.j=some (.gv h.k h.es h.post):=by
      intro h hh;obtain⟨x,ga,p,ms,h1,r1,g0,g1,g2,g5,g3,g4⟩:=k2 h hh;obtain⟨v,hv,hs2⟩:=hval x p g1;rw[zv]at g2;obtain⟨e1,e2,e3⟩:=(qoD hok hrel.boxes g2 g3 (fun z hz=>hros' z (g4 z hz)) hs2).at_ h g5;have ev:(args.map a.eval).getD h.i undef=v:=by rw[e1,zl,hv];rfl
      rw[ev];exact⟨e2,ga,by rw[e1];exact g0,e3⟩
     have hrun:(execOp a.eval ⟨dst,.call ⟨.value (.func f),args,ts⟩,type,pos,after,guard⟩).run P w=.ok (.enter f (args.map a.eval)) w:=by
      unfold qaT at hcan;split at hcan
      ·rename_i fn hfn;simp only[zj,zS,zbq,zcc]at hcan;have hc2':fn.body≠none:=by intro e;rw[e]at hcan;simp at hcan
       simp[execOp,resolve,Act.eval,Deferred.ofValue,invoke,callFunc,hfn,hcan.1,hc2']
      ·cases hcan
     have key:RetG P f gs rs→Obs obs1→(∀v w' ω' τ',RelAt w0 (st.map (qdj hs (10000*(dst.getD 0+1)) tS kS esS)) a w' ω' τ'→SatP (Sat w' ω' τ') (resPV (10000*(dst.getD 0+1)) rs) v→K (a.put dst v) w')→
       Oper.wp P ⟨dst,.call ⟨.value (.func f),args,ts⟩,type,pos,after,guard⟩ a w K Q:=by
      intro hret ho1 hK';unfold Oper.wp;rw[hrun];simp only[Oper.upon];refine (hret w _ _ hgas (hrel.tidy fun b hb=>by simp only[qaS,hb])).mono ?_;rintro e w' ⟨v,rfl,hbel,ωc,c1,c2,c3,c4⟩;obtain⟨ω',τ',h1,h2⟩:=hrel.calledG (10000*(dst.getD 0+1)) hok hfit htg hrng' hbel ωc c1 c2 c4 (fun h=>cellOf ((args.map a.eval).getD h.i undef) h.j)
       (fun h hh es' he=>by
        obtain⟨_,ga,g1,g2⟩:=hat h hh;rw[he]at g2;exact c3 h.i h.j ga h.k h.es es' g1 g2)
       (fun h hh=>(hat h hh).1) (qu8 hrel hsub ho1)
      exact hK' v w' ω' τ' h1 h2
     cases dst with
     | none=>
      simp only[za,zd]at h;obtain⟨rfl,_,rfl⟩:=h;exact key ho.1 ho.2 fun v w' ω' τ' h1 _=>hK _ _ ⟨ω',τ',h1⟩
     | some d=>
      simp only[za,zd]at h;obtain⟨rfl,_,rfl⟩:=h;exact key ho.1 ho.2 fun v w' ω' τ' h1 h2=>hK _ _ ⟨ω',τ',h1.put h2⟩
    ·cases h
   ·cases h
  ·cases h
 ·cases h
