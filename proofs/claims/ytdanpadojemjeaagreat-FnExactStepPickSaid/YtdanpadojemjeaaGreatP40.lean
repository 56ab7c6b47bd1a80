/- The steps of a cluster, as they change the data. -/
import Derived.Test.YtdanpadojemjeaaGreatP31
set_option linter.unusedVariables false
set_option linter.unusedSimpArgs false
namespace Go.Proofs.YtdanpadojemjeaaGreat
open Go.Sx Go.RowKit
def cutAt{α:Type}(xs:List α)(k:Nat):List α:=xs.take k++xs.drop (k+1)
def rec0:Record:=⟨0,⟨0,0⟩,0,0⟩
def incAt(xs:List Int)(e d:Int):List Int:=xs.set e.toNat (xs.getD e.toNat 0+d)
def qaE(l:Link)(r:Record):Link×Bool:=
 if qbm l&&qaF r&&l.credits != 0&&decide (l.sent<1000000000) then (⟨l.cap,l.queue++[r],l.credits-1,l.back,l.sent+1,l.got⟩,true) else (l,false)
def qaB(l:Link):Link×Record×Bool:=
 if qbm l then match l.queue with
  | []=>(l,rec0,false)
  | r::q=>(⟨l.cap,q,l.credits,l.back+1,l.sent,l.got+1⟩,r,true)
 else (l,rec0,false)
def qbg(l:Link):Link×Bool:=
 if qbm l&&l.back != 0 then (⟨l.cap,l.queue,l.credits+1,l.back-1,l.sent,l.got⟩,true) else (l,false)
def qa1(g:Graph)(w:Worker):Worker×Bool:=
 if qaw g&&qaz g w then match w.staged,w.queue with
  | [],r::q=>(⟨q,(qay g w.cells r).2.1,w.inputs,(qay g w.cells r).1,w.sums,w.black,(if capped g r then w.caps.set r.stamp.epoch.toNat true else w.caps),w.dones⟩,true)
  | _,_=>(w,false)
 else (w,false)
def qa2(g:Graph)(w:Worker):Worker×Bool:=
 if qaw g&&qaz g w then match w.staged,w.queue,w.inputs with
  | [],[],r::t=>(⟨[r],[],t,w.cells,w.sums,w.black,w.caps,w.dones⟩,true)
  | _,_,_=>(w,false)
 else (w,false)
def qbI(w:Worker)(t:List Record):Worker:=⟨w.queue,t,w.inputs,w.cells,w.sums,w.black,w.caps,w.dones⟩
def kept(w:Worker)(r:Record):Worker:=⟨w.queue++[r],w.staged,w.inputs,w.cells,w.sums,w.black,w.caps,w.dones⟩
def received(w:Worker)(r:Record):Worker:=⟨w.queue++[r],w.staged,w.inputs,w.cells,incAt w.sums r.stamp.epoch (-1),w.black.set r.stamp.epoch.toNat true,w.caps,w.dones⟩
def qcC(w:Worker)(e:Int):Worker:=⟨w.queue,w.staged,w.inputs,w.cells,incAt w.sums e 1,w.black,w.caps,w.dones⟩
def qb5(w:Worker)(e:Int):Worker:=⟨w.queue,w.staged,w.inputs,w.cells,w.sums,w.black.set e.toNat false,w.caps,w.dones⟩
def told(w:Worker)(e:Int)(b:Bool):Worker:=⟨w.queue,w.staged,w.inputs,w.cells,w.sums,w.black,w.caps,w.dones++[⟨e,b⟩]⟩
def hears(w:Worker)(n:News):Worker:=if qbQ w n.epoch then w else told w n.epoch n.capped
def qf2(w:Worker)(e:Int):Bool:=w.inputs.any fun r=>decide (r.stamp.epoch≤e)
def qIc(w:Worker)(e:Int):Nat:=(qcz e w.queue).length+(qcz e w.staged).length
def qds(w:Worker)(e:Int):Bool:=!qf2 w e&&qIc w e==0
def setW(c:Cluster)(i:Int)(x:Worker):Cluster:=⟨c.graph,c.workers.set i.toNat x,c.links,c.tokens,c.news⟩
def setL(c:Cluster)(i:Int)(l:Link):Cluster:=⟨c.graph,c.workers,c.links.set i.toNat l,c.tokens,c.news⟩
def setT(c:Cluster)(i:Int)(t:Token):Cluster:=⟨c.graph,c.workers,c.links,c.tokens.set i.toNat t,c.news⟩
def setN(c:Cluster)(n:List News):Cluster:=⟨c.graph,c.workers,c.links,c.tokens,n⟩
def wAt(c:Cluster)(i:Int):Option Worker:=if 0≤i then c.workers[i.toNat]? else none
def lAt(c:Cluster)(i:Int):Option Link:=if 0≤i then c.links[i.toNat]? else none
def tAt(c:Cluster)(i:Int):Option Token:=if 0≤i then c.tokens[i.toNat]? else none
def qaU(g:Graph)(a b:Int):Int:=if inR a 0 (g.workers-1)&&inR b 0 (g.workers-1) then a*g.workers+b else -1
def qbo(c:Cluster)(w:Int):Cluster×Bool:=
 if qai c then match wAt c w with
  | some x=>(setW c w (qa1 c.graph x).1,(qa1 c.graph x).2)
  | none=>(c,false)
 else (c,false)
def qbp(c:Cluster)(w:Int):Cluster×Bool:=
 if qai c then match wAt c w with
  | some x=>(setW c w (qa2 c.graph x).1,(qa2 c.graph x).2)
  | none=>(c,false)
 else (c,false)
def qf3(c:Cluster)(w:Int)(x:Worker)(r:Record)(t:List Record)(o:Int):Cluster×Bool:=
 if o=w then (setW c w (kept (qbI x t) r),true)
 else match lAt c (qaU c.graph w o) with
  | some l=>if (qaE l r).2 then (setW (setL c (qaU c.graph w o) (qaE l r).1) w (qcC (qbI x t) r.stamp.epoch),true) else (c,false)
  | none=>(c,false)
def qbq(c:Cluster)(w:Int):Cluster×Bool:=
 if qai c then match wAt c w with
  | some x=>match x.staged with
   | r::t=>qf3 c w x r t (qcO r.key c.graph.workers)
   | []=>(c,false)
  | none=>(c,false)
 else (c,false)
def qbx(c:Cluster)(a b:Int):Cluster×Bool:=
 if qai c&&a != b then match lAt c (qaU c.graph a b),wAt c b with
  | some l,some x=>if (qaB l).2.2 then (setW (setL c (qaU c.graph a b) (qaB l).1) b (received x (qaB l).2.1),true) else (c,false)
  | _,_=>(c,false)
 else (c,false)
def qbr(c:Cluster)(a b:Int):Cluster×Bool:=
 if qai c&&a != b then match lAt c (qaU c.graph a b) with
  | some l=>(setL c (qaU c.graph a b) (qbg l).1,(qbg l).2)
  | none=>(c,false)
 else (c,false)
def qbd(n:Nat)(e:Int)(b:Bool):List News:=(List.range n).map fun k:Nat=>⟨(k:Int)+1,e,b⟩
def qaH(c:Cluster)(e:Int)(t:Token)(x:Worker):Cluster×Bool:=
 if qds x e then
  if !t.going then (setW (setT c e ⟨true,(c.workers.length:Int)-1,0,false,x.caps.getD e.toNat false⟩) t.place (qb5 x e),true)
  else if 0<t.place then
   if inR (t.sum+x.sums.getD e.toNat 0) (-1000000) 1000000 then
    (setW (setT c e ⟨true,t.place-1,t.sum+x.sums.getD e.toNat 0,t.black||x.black.getD e.toNat false,t.capped||x.caps.getD e.toNat false⟩) t.place (qb5 x e),true)
   else (c,false)
  else if !t.black&&!x.black.getD e.toNat false&&t.sum+x.sums.getD e.toNat 0==0 then
   (setN (setW (setT c e ⟨false,t.place,t.sum,t.black,t.capped⟩) 0 (told x e (t.capped||x.caps.getD e.toNat false))) (c.news++qbd (c.workers.length-1) e (t.capped||x.caps.getD e.toNat false)),true)
  else (setT c e ⟨false,t.place,t.sum,t.black,t.capped⟩,true)
 else (c,false)
def qbh(c:Cluster)(e:Int):Cluster×Bool:=
 if qai c&&inR e 0 3 then match wAt c 0,tAt c e with
  | some x0,some t=>if qbQ x0 e then (c,false) else match wAt c t.place with
   | some x=>qaH c e t x
   | none=>(c,false)
  | _,_=>(c,false)
 else (c,false)
def qby(c:Cluster)(w:Int):Cluster×Bool:=
 match c.news.findIdx? (fun n=>n.dest==w) with
 | some k=>if qai c then match c.news[k]?,wAt c w with
   | some n,some x=>(setN (setW c w (hears x n)) (cutAt c.news k),true)
   | _,_=>(c,false)
  else (c,false)
 | none=>(c,false)
def stepPick(c:Cluster)(p:Pick):Cluster×Bool:=
 if p.kind=1 then qbo c p.a else if p.kind=2 then qbp c p.a else if p.kind=3 then qbq c p.a
 else if p.kind=4 then qbx c p.a p.b else if p.kind=5 then qbr c p.a p.b else if p.kind=6 then qbh c p.a
 else if p.kind=7 then qby c p.a else (c,false)
end Go.Proofs.YtdanpadojemjeaaGreat
namespace Go.Proofs.YtdanpadojemjeaaGreat
open Go.Sx Go.RowKit
section
variable {α : Type}
theorem qkN{p:α→Bool}{xs:List α}{i:Nat}{x:α}(h:xs.any p=false)(hi:i<xs.length):(xs.set i x).any p=p x:=by
 cases hx:p x with
 | true=>exact zci.2 ⟨x,List.mem_iff_getElem.2 ⟨i,by simpa using hi,by simp⟩,hx⟩
 | false=>
  rw[zO]at h ⊢
  intro a ha
  rcases zbc ha with h1 | rfl
  ·exact h a h1
  ·simp[hx]
theorem qpg{p:Nat→α→Bool}{x:α}:∀{xs:List α} {k i:Nat},anyI p k xs=false→i<xs.length→anyI p k (xs.set i x)=p (k+i) x
 | [],_,_,_,h=>by simp at h
 | a::xs,k,0,h,_=>by
  simp only[anyI,zy]at h
  simp only[List.set_cons_zero,anyI,h.2,Bool.or_false,zbh]
 | a::xs,k,i+1,h,hi=>by
  simp only[anyI,zy]at h
  simp only[List.set_cons_succ,anyI,h.1,zaj]
  rw[qpg h.2 (by simpa using hi),show k+1+i=k+(i+1) by omega]
theorem qph{p:Nat→α→Bool}{xs:List α}(h:∀i a,xs[i]?=some a→p i a=false):anyI p 0 xs=false:=by
 cases hx:anyI p 0 xs with
 | false=>rfl
 | true=>
  obtain⟨i,a,h1,h2,_⟩:=qjQ hx
  rw[zu,h i a h1]at h2
  cases h2
theorem qiq{p:Nat→α→Bool}{xs:List α}(h:anyI p 0 xs=false){i:Nat}{a:α}(ha:xs[i]?=some a):p i a=false:=by
 have:=qhN h i a ha
 rwa[zu]at this
end
theorem qa5{c:Cluster}:qai c=true↔qaw c.graph=true∧(c.workers.length:Int)=c.graph.workers∧(c.links.length:Int)=c.graph.workers*c.graph.workers∧c.tokens.length=4∧(c.workers.any fun w=>!qaz c.graph w)=false∧anyI (qbn c.graph) 0 c.links=false∧c.tokens.any (qbG c.graph.workers)=false∧c.news.any (qbH c.graph.workers)=false:=by
 simp only[qai,zj,zS,zF]
theorem qcS{c:Cluster}{i:Int}{x:Worker}(h:wAt c i=some x):0≤i∧i.toNat<c.workers.length∧c.workers[i.toNat]?=some x:=by
 unfold wAt at h
 split at h
 ·exact⟨‹_›,lt_of h,h⟩
 ·cases h
theorem qdY{c:Cluster}{i:Int}{x:Link}(h:lAt c i=some x):0≤i∧i.toNat<c.links.length∧c.links[i.toNat]?=some x:=by
 unfold lAt at h
 split at h
 ·exact⟨‹_›,lt_of h,h⟩
 ·cases h
theorem qkO{c:Cluster}{i:Int}{x:Token}(h:tAt c i=some x):0≤i∧i.toNat<c.tokens.length∧c.tokens[i.toNat]?=some x:=by
 unfold tAt at h
 split at h
 ·exact⟨‹_›,lt_of h,h⟩
 ·cases h
theorem qdZ{c:Cluster}{i:Int}{x y:Worker}(h:qai c=true)(hy:wAt c i=some y):qai (setW c i x)=qaz c.graph x:=by
 obtain⟨h1,h2,h3,h4,h5,h6,h7,h8⟩:=qa5.1 h
 have hi:=(qcS hy).2.1
 simp only[qai,setW,zn,qkN h5 hi,h1,h2,h3,h4,h6,h7,h8,zbx,zaz,zco,zbk,Bool.not_not]
theorem qkP{c:Cluster}{i:Int}{x y:Link}(h:qai c=true)(hy:lAt c i=some y):qai (setL c i x)=!qbn c.graph i.toNat x:=by
 obtain⟨h1,h2,h3,h4,h5,h6,h7,h8⟩:=qa5.1 h
 have hi:=(qdY hy).2.1
 simp only[qai,setL,zn,qpg h6 hi,zu,h1,h2,h3,h4,h5,h7,h8,zbx,zaz,zco,zbk]
theorem qId{c:Cluster}{i:Int}{x y:Token}(h:qai c=true)(hy:tAt c i=some y):qai (setT c i x)=!qbG c.graph.workers x:=by
 obtain⟨h1,h2,h3,h4,h5,h6,h7,h8⟩:=qa5.1 h
 have hi:=(qkO hy).2.1
 simp only[qai,setT,zn,qkN h7 hi,h1,h2,h3,h4,h5,h6,h8,zbx,zaz,zco,zbk]
theorem qpi{c:Cluster}{x:List News}(h:qai c=true):qai (setN c x)=!(x.any (qbH c.graph.workers)):=by
 obtain⟨h1,h2,h3,h4,h5,h6,h7,h8⟩:=qa5.1 h
 simp only[qai,setN,h1,h2,h3,h4,h5,h6,h7,zbx,zaz,zbk]
theorem qcr{c:Cluster}{i:Int}{x:Worker}(h:qai c=true)(hx:wAt c i=some x):qaz c.graph x=true:=by
 have h5:=(qa5.1 h).2.2.2.2.1
 rw[zO]at h5
 simpa using h5 x (qaq (qcS hx).2.2)
theorem qg0{c:Cluster}{i:Int}{x:Link}(h:qai c=true)(hx:lAt c i=some x):qbn c.graph i.toNat x=false:=
 qiq (qa5.1 h).2.2.2.2.2.1 (qdY hx).2.2
theorem qpj{c:Cluster}{i:Int}{x:Token}(h:qai c=true)(hx:tAt c i=some x):qbG c.graph.workers x=false:=by
 have h5:=(qa5.1 h).2.2.2.2.2.2.1
 rw[zO]at h5
 simpa using h5 x (qaq (qkO hx).2.2)
theorem qe2{c:Cluster}{i:Int}{x:Worker}(hx:wAt c i=some x):setW c i x=c:=by
 obtain⟨_,h2,h3⟩:=qcS hx
 have:c.workers.set i.toNat x=c.workers:=by
  rw[zt h2]at h3
  rw[←zx h3]
  exact List.set_getElem_self h2
 unfold setW
 rw[this]
theorem qbC{g:Graph}{w:Worker}:qaz g w=true↔qaP g w.queue=true∧qaP g w.staged=true∧qaP g w.inputs=true∧qbt w.cells=true∧w.sums.length=4∧w.black.length=4∧w.caps.length=4∧anyI (inBad w.inputs) 0 w.inputs=false∧w.sums.any qcc=false∧anyI (qbV w.dones) 0 w.dones=false:=by
 simp only[qaz,zj,zS,zF]
theorem qd0{g:Graph}{r:Record}{q:List Record}:qaP g (r::q)=true↔qbN g r=false∧qaP g q=true:=by
 simp only[qaP,zcg,zS,zy]
theorem qkQ{g:Graph}{r:Record}{q:List Record}:qaP g (q++[r])=true↔qaP g q=true∧qbN g r=false:=by
 simp only[qaP,List.any_append,zcg,List.any_nil,Bool.or_false,zS,zy]
theorem qIe{r:Record}{t:List Record}(h:anyI (inBad (r::t)) 0 (r::t)=false):anyI (inBad t) 0 t=false:=by
 refine qph fun i a ha=>?_
 have k:=qiq h (i:=i+1) (a:=a) (by simpa using ha)
 unfold inBad at k ⊢
 rw[zy]at k ⊢
 refine⟨k.1,?_⟩
 cases i with
 | zero=>rfl
 | succ j=>simpa using k.2
theorem qIf{xs:List Done}{d:Done}(h:anyI (qbV xs) 0 xs=false)(h1:inR d.epoch 0 3=true)(h2:(xs.any fun q=>q.epoch==d.epoch)=false):anyI (qbV (xs++[d])) 0 (xs++[d])=false:=by
 refine qph fun i a ha=>?_
 by_cases hi:i<xs.length
 ·rw[zbd hi]at ha
  have k:=qiq h ha
  unfold qbV at k ⊢
  rw[zbv (by omega)]
  exact k
 ·have hl:=lt_of ha
  simp only[zaf,zr,zh]at hl
  have e:i=xs.length:=by omega
  subst e
  rw[zap (zP _),Nat.sub_self]at ha
  obtain rfl:d=a:=by simpa using ha
  unfold qbV
  rw[zbv (zP _),zG,h1,h2]
  rfl
theorem qIg{g:Graph}{w:Worker}{r:Record}(h:qaz g w=true)(hr:qbN g r=false):qaz g (kept w r)=true:=by
 obtain⟨h1,h2⟩:=qbC.1 h
 exact qbC.2 ⟨qkQ.2 ⟨h1,hr⟩,h2⟩
theorem qir{g:Graph}{w:Worker}{r:Record}{t:List Record}(h:qaz g w=true)(hs:w.staged=r::t):qaz g (qbI w t)=true∧qbN g r=false:=by
 obtain⟨h1,h2,h3⟩:=qbC.1 h
 rw[hs,qd0]at h2
 exact⟨qbC.2 ⟨h1,h2.2,h3⟩,h2.1⟩
theorem qIh{g:Graph}{w:Worker}{e:Int}(h:qaz g w=true):qaz g (qb5 w e)=true:=by
 obtain⟨h1,h2,h3,h4,h5,h6,h7⟩:=qbC.1 h
 exact qbC.2 ⟨h1,h2,h3,h4,h5,by simp only[qb5,zn];exact h6,h7⟩
theorem qpk{g:Graph}{w:Worker}{e:Int}{b:Bool}(h:qaz g w=true)(he:inR e 0 3=true)(hd:qbQ w e=false):qaz g (told w e b)=true:=by
 obtain⟨h1,h2,h3,h4,h5,h6,h7,h8,h9,h10⟩:=qbC.1 h
 exact qbC.2 ⟨h1,h2,h3,h4,h5,h6,h7,h8,h9,qIf h10 he hd⟩
theorem qIi{g:Graph}{w:Worker}{n:News}(h:qaz g w=true)(he:inR n.epoch 0 3=true):qaz g (hears w n)=true:=by
 unfold hears
 cases hd:qbQ w n.epoch with
 | true=>exact h
 | false=>exact qpk h he hd
theorem qpl{g:Graph}{w:Worker}{e d:Int}{k:Nat}(h:qaz g w=true)(hk:e.toNat=k)(h4:k<4):(incAt w.sums e d).length=4∧(incAt w.sums e d).any qcc=qcc (w.sums.getD e.toNat 0+d):=by
 obtain⟨h1,h2,h3,_,h5,h6,h7,h8,h9,h10⟩:=qbC.1 h
 exact⟨by simp only[incAt,zn];exact h5,qkN h9 (by omega)⟩
theorem qd1{g:Graph}{r:Record}(h:qbN g r=false):0≤r.stamp.epoch∧r.stamp.epoch≤3:=by
 simp only[qbN,qaF,qa8,inR,zy,zW,zj,zi]at h
 omega
theorem qIj{g:Graph}{w:Worker}{e:Int}(h:qaz g w=true)(he:0≤e∧e≤3):qaz g (qcC w e)=inR (w.sums.getD e.toNat 0+1) (-1000000) 1000000:=by
 obtain⟨k1,k2⟩:=qpl (d:=1) h (e:=e) rfl (by omega)
 obtain⟨h1,h2,h3,h4,h5,h6,h7,h8,h9,h10⟩:=qbC.1 h
 simp only[qaz,qcC,h1,h2,h3,h4,k1,h6,h7,h8,h10,k2,qcc,zbx,zaz,zco,zbk,Bool.not_not]
theorem qIk{g:Graph}{w:Worker}{r:Record}(h:qaz g w=true)(hr:qbN g r=false):qaz g (received w r)=inR (w.sums.getD r.stamp.epoch.toNat 0+-1) (-1000000) 1000000:=by
 have he:=qd1 hr
 obtain⟨k1,k2⟩:=qpl (d:=-1) h (e:=r.stamp.epoch) rfl (by omega)
 obtain⟨h1,h2,h3,h4,h5,h6,h7,h8,h9,h10⟩:=qbC.1 h
 have hq:=qkQ.2 ⟨h1,hr⟩
 simp only[qaz,received,hq,h2,h3,h4,k1,zn,h6,h7,h8,h10,k2,qcc,zbx,zaz,zco,zbk,Bool.not_not]
theorem qIl{g:Graph}{w:Worker}(h:qaz g w=true):qaz g (qa2 g w).1=true:=by
 unfold qa2
 split
 ·split
  ·rename_i r t h1 h2 h3
   obtain⟨_,_,k3,k4,k5,k6,k7,k8,k9,k10⟩:=qbC.1 h
   rw[h3]at k3 k8
   exact qbC.2 ⟨qd0.2 ⟨(qd0.1 k3).1,rfl⟩,rfl,(qd0.1 k3).2,k4,k5,k6,k7,qIe k8,k9,k10⟩
  ·exact h
 ·exact h
theorem qIm:∀{xs:List Cell},qbt xs=true→∀i a b,xs[i]?=some a→xs[i+1]?=some b→qa9 a b<0:=by
 intro xs h i a b h1 h2
 simp only[qbt,zS,zO]at h
 have hm:(a,b)∈xs.zip (xs.drop 1):=by
  refine qaq (i:=i) ?_
  rw[List.getElem?_zip_eq_some]
  exact⟨h1,by rw[zA,Nat.add_comm];exact h2⟩
 have:=h _ hm
 simp only[qij,zi]at this
 omega
def qd2(a:Cell):List Int:=[a.epoch,a.op,a.key,a.val]
theorem qpm(a b:Cell):qa9 a b=cmpL (qd2 a) (qd2 b):=rfl
theorem qkR{a b c:Cell}(h1:qa9 a b<0)(h2:qa9 b c<0):qa9 a c<0:=by
 rw[qpm] at*
 exact qoa (qd2 a) (qd2 b) (qd2 c) rfl rfl h1 h2
theorem qIn{a b:Cell}(h1:¬qa9 a b<0)(h2:a≠b):qa9 b a<0:=by
 rw[qpm] at*
 refine Classical.byContradiction fun h=>h2 ?_
 have:=qob (qd2 a) (qd2 b) rfl h1 h
 simp only[qd2,zbq,and_true]at this
 obtain⟨x1,x2,x3,x4⟩:=this
 cases a;cases b
 simp only[Cell.mk.injEq]
 exact⟨x2,x1,x3,x4⟩
theorem qpn:∀{xs:List Cell},qbt xs=true→xs.Pairwise fun a b=>qa9 a b<0
 | [],_=>List.Pairwise.nil
 | [a],_=>List.pairwise_singleton _ a
 | a::b::xs,h=>by
  have ht:qbt (b::xs)=true:=by
   simp only[qbt,List.drop_succ_cons,zcj,List.zip_cons_cons,zcg,Bool.not_or,zj]at h ⊢
   exact h.2
  have hs:=qpn ht
  have hab:=qIm h 0 a b rfl rfl
  refine List.Pairwise.cons (fun c hc=>?_) hs
  rcases zL.1 hc with rfl | hc
  ·exact hab
  ·exact qkR hab ((List.pairwise_cons.1 hs).1 c hc)
theorem qpo{xs:List Cell}(h:xs.Pairwise fun a b=>qa9 a b<0):qbt xs=true:=by
 simp only[qbt,zS,zO]
 rintro⟨a,b⟩ hp
 obtain⟨i,hi⟩:=List.getElem?_of_mem hp
 obtain⟨h1,h2⟩:=qgZ hi
 have hj:=lt_of h2
 have:=List.pairwise_iff_getElem.1 h i (i+1) (by omega) hj (by omega)
 rw[zt (by omega)]at h1 h2
 rw[zx h1,zx h2]at this
 replace this:qa9 a b<0:=this
 show ¬decide (qa9 a b≥0)=true
 simp only[zi]
 omega
theorem qpp{xs:List Cell}(x:Cell)(h:xs.Pairwise fun a b=>qa9 a b<0):(qbv xs x).Pairwise fun a b=>qa9 a b<0:=by
 unfold qbv
 split
 ·exact h
 ·rename_i hno
  have hx:∀a∈xs,a≠x:=by
   intro a ha e
   exact hno (zci.2 ⟨a,ha,by simp[e]⟩)
  have hb:∀i a,xs[i]?=some a→i<qbR xs x→qa9 a x<0:=by
   intro i a ha hi
   unfold qbR at hi
   cases hf:xs.findIdx? (fun a=>!decide (qa9 a x<0)) with
   | none=>
    rw[zbr]at hf
    simpa using hf a (qaq ha)
   | some k=>
    rw[hf]at hi
    simp only[zU]at hi
    rw[zad]at hf
    obtain⟨hk,_,h3⟩:=hf
    have:=h3 i hi
    rw[zt (by omega)]at ha
    rw[zx ha]at this
    simpa using this
  have ha:∀i a,xs[i]?=some a→qbR xs x≤i→qa9 x a<0:=by
   intro i a ha hi
   have hk:qbR xs x<xs.length:=by have:=lt_of ha;omega
   obtain⟨b,hb2⟩:=qah hk
   have h0:¬qa9 b x<0:=by
    unfold qbR at hb2 hk
    cases hf:xs.findIdx? (fun a=>!decide (qa9 a x<0)) with
    | none=>rw[hf]at hk;simp at hk
    | some k=>
     rw[hf]at hb2
     simp only[zU]at hb2
     rw[zad]at hf
     obtain⟨hk2,h2,_⟩:=hf
     rw[zt hk2]at hb2
     rw[zx hb2]at h2
     simpa using h2
   have hxb:=qIn h0 (hx b (qaq hb2))
   rcases Nat.lt_or_eq_of_le hi with hlt | heq
   ·have hj:=lt_of ha
    have:=List.pairwise_iff_getElem.1 h (qbR xs x) i hk hj hlt
    rw[zt hk]at hb2
    rw[zt hj]at ha
    rw[zx hb2,zx ha]at this
    exact qkR hxb this
   ·rw[heq,ha]at hb2
    rw[zx hb2]
    exact hxb
  rw[List.pairwise_append]
  refine⟨h.sublist (List.take_sublist _ _),List.Pairwise.cons (fun c hc=>?_) (h.sublist (List.drop_sublist _ _)),fun a ha2 c hc=>?_⟩
  ·obtain⟨i,hi⟩:=List.getElem?_of_mem hc
   rw[zA]at hi
   exact ha _ _ hi (by omega)
  ·obtain⟨i,hi⟩:=List.getElem?_of_mem ha2
   rw[zE]at hi
   split at hi
   ·rename_i hlt
    have h1:=hb i a hi hlt
    rcases zL.1 hc with rfl | hc
    ·exact h1
    ·obtain⟨j,hj⟩:=List.getElem?_of_mem hc
     rw[zA]at hj
     exact qkR h1 (ha _ _ hj (by omega))
   ·cases hi
theorem qIo(kind:Int){xs:List Cell}(x:Cell)(h:qbt xs=true):qbt (qaj kind xs x).1=true:=by
 have hs:=qpn h
 have h1:=qpo (qpp x hs)
 have h2:=qpo (qpp x (hs.sublist (List.filter_sublist (p:=fun a=>!qax x a))))
 unfold qaj
 split
 ·split
  ·exact h
  ·exact h1
 ·split
  ·unfold qbj
   split
   ·exact h
   ·exact h2
  ·exact h
theorem qIp{g:Graph}{cs:List Cell}(r:Record)(h:qbt cs=true):qbt (qay g cs r).1=true:=by
 unfold qay
 cases qaM g r.op with
 | none=>exact h
 | some x=>
  have hr:=qIo x.kind ⟨r.op,r.stamp.epoch,r.key,r.val⟩ h
  simp only[qar]
  split
  ·split
   ·exact h
   ·split
    ·exact hr
    ·split
     ·exact hr
     ·exact hr
  ·exact h
theorem qIq{x:Node}{k v:Int}(hx:qab x=true)(hi:qaC k v=true):qaC (qag x k v).1 (qag x k v).2.1=true:=by
 have hx':=hx
 simp only[qab,zj]at hx
 have ha:=hx.1.1.1.1
 have hi':=hi
 simp only[qaC,inR,zj,zi]at hi
 unfold qag
 rw[hx',hi',Bool.and_self,zq rfl]
 unfold abOk at ha
 split
 ·rename_i h2
  rw[zq h2]at ha
  simp only[inR,zj,zi]at ha
  have hl:0≤less (v+x.a) 999∧less (v+x.a) 999≤999:=by unfold less;split<;>omega
  simp only[qaC,inR,zj,zi]
  omega
 ·rename_i h2
  rw[zo h2]at ha
  split
  ·rename_i h4
   rw[zo (by omega),zq h4]at ha
   simp only[inR,zj,zi]at ha
   simp only[qaC,inR,zj,zi]
   rw[Int.tmod_eq_emod_of_nonneg (by omega)]
   omega
  ·split
   ·exact hi'
   ·exact hi'
theorem qIr{g:Graph}(h:qaw g=true){op:Int}{x:Node}(hn:qaM g op=some x):qbw g op.toNat x=false:=by
 simp only[qaw,zj,zS]at h
 unfold qaM at hn
 split at hn
 ·exact qiq h.2 hn
 ·cases hn
theorem qpq{g:Graph}(h:qaw g=true){op:Int}{x:Node}(hn:qaM g op=some x){s:Stamp}{k v:Int}(hs:qa8 s=true)(hi:qaC k v=true):qaP g (sends x s k v)=true:=by
 have hb:=qIr h hn
 have hx:=qkM h hn
 simp only[qab,zj]at hx
 simp only[qbw,zy]at hb
 have he:=hb.2
 rw[zO]at he
 simp only[qaP,sends,List.any_map,zS,zO]
 intro o ho
 have h1:=qkJ hx.2 ho
 have h2:=he o ho
 simp only[qaN,zbg,not_or,zi]at h2
 simp only[Function.comp,qbN,qaF,h1,hs,hi,Bool.and_self,zY,zaj,zi]
 omega
theorem qIs{g:Graph}{cs:List Cell}{r:Record}:qaP g (qay g cs r).2.1=true:=by
 unfold qay
 cases hn:qaM g r.op with
 | none=>rfl
 | some x=>
  simp only[qar]
  split
  ·rename_i hg
   rw[zj]at hg
   obtain⟨hg,hr⟩:=hg
   have hr':=hr
   simp only[qaF,zj]at hr
   have hc:=qIq (qkM hg hn) hr.2
   split
   ·rfl
   ·split
    ·rfl
    ·split
     ·cases ht:(qaA r.stamp).2 with
      | false=>rfl
      | true=>
       refine qpq hg hn ?_ hc
       unfold qaA at ht ⊢
       split
       ·rename_i h1
        simp only[zj,qa8,inR,zi]at h1 ⊢
        omega
       ·rename_i h1
        rw[zo h1]at ht
        cases ht
     ·exact qpq hg hn hr.1.2 hc
  ·rfl
theorem qIt{g:Graph}{w:Worker}(h:qaz g w=true):qaz g (qa1 g w).1=true:=by
 unfold qa1
 split
 ·split
  ·rename_i r q h1 h2
   obtain⟨k1,k2,k3,k4,k5,k6,k7,k8,k9,k10⟩:=qbC.1 h
   rw[h2,qd0]at k1
   refine qbC.2 ⟨k1.2,qIs,k3,qIp r k4,k5,k6,?_,k8,k9,k10⟩
   split
   ·rw[zn];exact k7
   ·exact k7
  ·exact h
 ·exact h
end Go.Proofs.YtdanpadojemjeaaGreat
namespace Go.Proofs.YtdanpadojemjeaaGreat
open Go.Sx Go.RowKit
theorem qe3{l:Link}:qbm l=true↔inR l.cap 1 4=true∧inR l.credits 0 l.cap=true∧inR l.back 0 l.cap=true∧l.credits+l.back+l.queue.length=l.cap∧inR l.sent 0 1000000000=true∧0≤l.got∧l.got=l.sent-l.queue.length∧(l.queue.any fun r=>!qaF r)=false:=by
 simp only[qbm,zj,zS,zF,zi,and_assoc]
theorem qf4{g:Graph}{i:Nat}{l:Link}:qbn g i l=false↔qbm l=true∧l.cap=g.cap∧qaP g l.queue=true∧((i:Int).tdiv g.workers=(i:Int).tmod g.workers→l.queue=[]):=by
 simp only[qbn,zy,zW,bne_eq_false_iff_eq,Bool.and_eq_false_imp,zF,zf]
 refine and_congr_right fun _=>and_congr_right fun _=>and_congr_right fun _=>imp_congr_right fun _=>?_
 cases l.queue with
 | nil=>simp
 | cons a q=>simp
theorem qIu{g:Graph}{i:Nat}{l:Link}{r:Record}(h:qbn g i l=false)(hr:qbN g r=false)(hs:(qaE l r).2=true)(hd:(i:Int).tdiv g.workers≠(i:Int).tmod g.workers):qbn g i (qaE l r).1=false:=by
 obtain⟨h1,h2,h3,h4⟩:=qf4.1 h
 unfold qaE at hs ⊢
 split
 ·rename_i hc
  simp only[zj,bne_iff_ne,zcb,zi]at hc
  obtain⟨⟨⟨_,hr2⟩,hcr⟩,hse⟩:=hc
  obtain⟨k1,k2,k3,k4,k5,k6,k7,k8⟩:=qe3.1 h1
  refine qf4.2 ⟨qe3.2 ⟨k1,?_,k3,?_,?_,k6,?_,?_⟩,h2,qkQ.2 ⟨h3,hr⟩,fun e=>(hd e).elim⟩
  ·simp only[inR,zi]at k2 ⊢;omega
  ·simp only[zaf,zr,zh];omega
  ·simp only[inR,zi]at k5 ⊢;omega
  ·simp only[zaf,zr,zh];omega
  ·simp only[List.any_append,k8,zcg,List.any_nil,hr2,zY,Bool.or_false]
 ·rename_i hc
  rw[zo hc]at hs
  cases hs
theorem qkS{g:Graph}{i:Nat}{l:Link}(h:qbn g i l=false)(hs:(qaB l).2.2=true):qbn g i (qaB l).1=false∧qbN g (qaB l).2.1=false:=by
 obtain⟨h1,h2,h3,h4⟩:=qf4.1 h
 obtain⟨k1,k2,k3,k4,k5,k6,k7,k8⟩:=qe3.1 h1
 unfold qaB at hs ⊢
 rw[zq h1]at hs ⊢
 split
 ·rename_i hq
  rw[hq]at hs
  cases hs
 ·rename_i r q hq
  rw[hq]at h3 k8 k4 k7 h4
  rw[qd0]at h3
  rw[zcg,zy]at k8
  simp only[zr]at k4 k7
  refine⟨qf4.2 ⟨qe3.2 ⟨k1,k2,?_,?_,k5,?_,?_,k8.2⟩,h2,h3.2,fun e=>absurd (h4 e) (by simp)⟩,h3.1⟩
  ·simp only[inR,zi]at k2 k3 ⊢;omega
  ·dsimp only;omega
  ·dsimp only;omega
  ·dsimp only;omega
theorem qIv{g:Graph}{i:Nat}{l:Link}(h:qbn g i l=false):qbn g i (qbg l).1=false:=by
 obtain⟨h1,h2,h3,h4⟩:=qf4.1 h
 obtain⟨k1,k2,k3,k4,k5,k6,k7,k8⟩:=qe3.1 h1
 unfold qbg
 split
 ·rename_i hc
  simp only[zj,bne_iff_ne,zcb]at hc
  refine qf4.2 ⟨qe3.2 ⟨k1,?_,?_,?_,k5,k6,k7,k8⟩,h2,h3,h4⟩
  ·simp only[inR,zi]at k2 k3 ⊢;omega
  ·simp only[inR,zi]at k2 k3 ⊢;omega
  ·dsimp only;omega
 ·exact h
theorem qis{g:Graph}{a b:Int}(hn:1≤g.workers∧g.workers≤4)(ha:inR a 0 (g.workers-1)=true)(hb:inR b 0 (g.workers-1)=true):
  qaU g a b=a*g.workers+b∧0≤a*g.workers+b∧a*g.workers+b<g.workers*g.workers∧(a*g.workers+b).tdiv g.workers=a∧(a*g.workers+b).tmod g.workers=b:=by
 have e:qaU g a b=a*g.workers+b:=by unfold qaU;rw[ha,hb];rfl
 simp only[inR,zi]at ha hb
 generalize g.workers=n at*
 have h0:0≤a*n+b:=by have:=Int.mul_nonneg ha.1 (show 0≤n by omega);omega
 rw[Int.tdiv_eq_ediv_of_nonneg h0,Int.tmod_eq_emod_of_nonneg h0]
 have hn4:n=1∨n=2∨n=3∨n=4:=by omega
 refine⟨e,h0,?_⟩
 rcases hn4 with rfl | rfl | rfl | rfl<;>omega
theorem qd3{g:Graph}{a b:Int}(h:(inR a 0 (g.workers-1)&&inR b 0 (g.workers-1))=false):qaU g a b=-1:=by
 unfold qaU;rw[h];rfl
theorem qpr(key:Int){n:Int}(hn:1≤n):inR (qcO key n) 0 (n-1)=true:=by
 have h1:=qkf key n (by omega)
 have h2:=Int.tmod_lt_of_pos key (show 0<n by omega)
 unfold qcO
 rw[zo (by omega)]
 simp only[inR,zi]
 split<;>omega
theorem qf5{c:Cluster}(h:qai c=true){a b:Int}(ha:inR a 0 (c.graph.workers-1)=true)(hb:inR b 0 (c.graph.workers-1)=true):∃l,lAt c (qaU c.graph a b)=some l:=by
 obtain⟨h1,h2,h3,_⟩:=qa5.1 h
 obtain⟨e,h0,hlt,_⟩:=qis (qcq h1) ha hb
 rw[e]
 unfold lAt
 rw[zq h0]
 exact qah (by omega)
theorem qIw{c:Cluster}{i:Int}{l:Link}(h:lAt c i=some l):((i.toNat:Nat):Int)=i:=by have:=(qdY h).1;omega
theorem qg1{c:Cluster}{i:Int}(h0:0≤i)(h1:i<c.workers.length):∃x,wAt c i=some x:=by
 unfold wAt
 rw[zq h0]
 exact qah (by omega)
theorem qIx{c:Cluster}(h:qai c=true){e:Int}(he:inR e 0 3=true):∃t,tAt c e=some t:=by
 have h4:=(qa5.1 h).2.2.2.1
 simp only[inR,zi]at he
 unfold tAt
 rw[zq he.1]
 exact qah (by omega)
theorem qg2{n:Int}{t:Token}:qbG n t=false↔(0≤t.place∧t.place≤n-1)∧(t.going=false→t.place=0)∧(-1000000≤t.sum∧t.sum≤1000000):=by
 simp only[qbG,inR,zy,zW,zi,Bool.and_eq_false_imp,zS,bne_eq_false_iff_eq]
theorem qg3{c:Cluster}{i j:Int}{l:Link}:wAt (setL c i l) j=wAt c j:=rfl
theorem qg4{c:Cluster}{i j:Int}{t:Token}:wAt (setT c i t) j=wAt c j:=rfl
theorem qps{c:Cluster}{i:Int}{l:Link}:(setL c i l).graph=c.graph:=rfl
theorem qpt{c:Cluster}{i:Int}{t:Token}:(setT c i t).graph=c.graph:=rfl
theorem qIy{c:Cluster}{i:Int}{x:Worker}:(setW c i x).graph=c.graph:=rfl
theorem qIz{c:Cluster}{w o:Int}{x:Worker}{r:Record}{t:List Record}{l:Link}(h:qai c=true)(hx:wAt c w=some x)(hs:x.staged=r::t)
  (ho:inR o 0 (c.graph.workers-1)=true) (hne:o≠w) (hl:lAt c (qaU c.graph w o)=some l) (hsend:(qaE l r).2=true):
  qai (setW (setL c (qaU c.graph w o) (qaE l r).1) w (qcC (qbI x t) r.stamp.epoch))=inR (x.sums.getD r.stamp.epoch.toNat 0+1) (-1000000) 1000000:=by
 obtain⟨h1,h2,_⟩:=qa5.1 h
 obtain⟨w0,w1,_⟩:=qcS hx
 obtain⟨ok,hr⟩:=qir (qcr h hx) hs
 obtain⟨e,p0,p1,p2,p3⟩:=qis (qcq h1) (a:=w) (b:=o) (by simp only[inR,zi];omega) ho
 have hL:qai (setL c (qaU c.graph w o) (qaE l r).1)=true:=by
  rw[qkP h hl,qIu (qg0 h hl) hr hsend]
  ·rfl
  ·rw[qIw hl,e,p2,p3];exact fun q=>hne q.symm
 rw[qdZ hL (qg3.trans hx),qps,qIj ok (qd1 hr)]
 rfl
theorem qIA{c:Cluster}{w:Int}{x:Worker}{r:Record}{t:List Record}(h:qai c=true)(hx:wAt c w=some x)(hs:x.staged=r::t):qai (setW c w (kept (qbI x t) r))=true:=by
 obtain⟨ok,hr⟩:=qir (qcr h hx) hs
 rw[qdZ h hx,qIg ok hr]
theorem qIB{c:Cluster}{k b:Int}{x:Worker}{l:Link}(h:qai c=true)(hl:lAt c k=some l)(hx:wAt c b=some x)(ht:(qaB l).2.2=true):
  qai (setW (setL c k (qaB l).1) b (received x (qaB l).2.1))=inR (x.sums.getD (qaB l).2.1.stamp.epoch.toNat 0+-1) (-1000000) 1000000:=by
 obtain⟨k1,k2⟩:=qkS (qg0 h hl) ht
 have hL:qai (setL c k (qaB l).1)=true:=by rw[qkP h hl,k1];rfl
 rw[qdZ hL (qg3.trans hx),qps,qIk (qcr h hx) k2]
theorem qIC{c:Cluster}{w:Int}(h:qai c=true):qai (qbo c w).1=true:=by
 unfold qbo
 rw[zq h]
 split
 ·rename_i x hx;rw[qdZ h hx,qIt (qcr h hx)]
 ·exact h
theorem qID{c:Cluster}{w:Int}(h:qai c=true):qai (qbp c w).1=true:=by
 unfold qbp
 rw[zq h]
 split
 ·rename_i x hx;rw[qdZ h hx,qIl (qcr h hx)]
 ·exact h
theorem qIE{c:Cluster}{a b:Int}(h:qai c=true):qai (qbr c a b).1=true:=by
 unfold qbr
 split
 ·split
  ·rename_i l hl;rw[qkP h hl,qIv (qg0 h hl)];rfl
  ·exact h
 ·exact h
theorem news_ok{n e:Int}{b:Bool}{m:Nat}(hm:(m:Int)=n-1)(he:inR e 0 3=true):(qbd m e b).any (qbH n)=false:=by
 rw[zO]
 intro x hx
 simp only[qbd,zbl,List.mem_range]at hx
 obtain⟨k,hk,rfl⟩:=hx
 have h1:inR ((k:Int)+1) 0 (n-1)=true:=by simp only[inR,zi];omega
 simp only[qbH,h1,he,zY,Bool.or_false,zam,not_false_eq_true]
theorem qIF{c:Cluster}{e:Int}{t:Token}{x x0:Worker}(h:qai c=true)(he:inR e 0 3=true)(ht:tAt c e=some t)(hx:wAt c t.place=some x)(h0:wAt c 0=some x0)(hd:qbQ x0 e=false):qai (qaH c e t x).1=true:=by
 obtain⟨h1,h2,h3,h4,h5,h6,h7,h8⟩:=qa5.1 h
 have hn:=qcq h1
 obtain⟨t1,t2,t3⟩:=qg2.1 (qpj h ht)
 have ok:=qcr h hx
 have setT_ok:∀t':Token,qbG c.graph.workers t'=false→qai (setT c e t')=true:=fun t' k=>by rw[qId h ht,k];rfl
 have both:∀t':Token,qbG c.graph.workers t'=false→qai (setW (setT c e t') t.place (qb5 x e))=true:=fun t' k=>by
  rw[qdZ (setT_ok t' k) (qg4.trans hx),qpt,qIh ok]
 unfold qaH
 split
 ·split
  ·exact both _ (qg2.2 ⟨by dsimp only;omega,by simp,by simp⟩)
  ·rename_i hg
   split
   ·split
    ·rename_i hp hr
     simp only[inR,zi]at hr
     exact both _ (qg2.2 ⟨by dsimp only;omega,by simp,hr⟩)
    ·exact h
   ·rename_i hp
    have e0:t.place=0:=by omega
    have kt:=setT_ok ⟨false,t.place,t.sum,t.black,t.capped⟩ (qg2.2 ⟨t1,fun _=>e0,t3⟩)
    split
    ·rw[e0]at hx
     have hxx:x0=x:=by rw[h0]at hx;exact zx hx
     have kw:qai (setW (setT c e ⟨false,t.place,t.sum,t.black,t.capped⟩) 0 (told x e (t.capped||x.caps.getD e.toNat false)))=true:=by
      rw[qdZ kt (qg4.trans hx),qpt]
      exact qpk ok he (hxx▸hd)
     rw[qpi kw,List.any_append]
     have e1:(setW (setT c e ⟨false,t.place,t.sum,t.black,t.capped⟩) 0 (told x e (t.capped||x.caps.getD e.toNat false))).graph=c.graph:=rfl
     rw[e1,h8,news_ok (by omega) he]
     rfl
    ·exact kt
 ·exact h
theorem qIG{c:Cluster}{e:Int}(h:qai c=true):qai (qbh c e).1=true:=by
 unfold qbh
 split
 ·rename_i hc
  rw[zj]at hc
  split
  ·rename_i x0 t h0 ht
   split
   ·exact h
   ·rename_i hd
    split
    ·rename_i x hx;exact qIF h hc.2 ht hx h0 (by simpa using hd)
    ·exact h
  ·exact h
 ·exact h
theorem qpu{c:Cluster}{k:Nat}{n:News}(h:qai c=true)(hn:c.news[k]?=some n):qbH c.graph.workers n=false:=by
 have h8:=(qa5.1 h).2.2.2.2.2.2.2
 rw[zO]at h8
 simpa using h8 n (qaq hn)
theorem qIH{α:Type}{p:α→Bool}{xs:List α}{k:Nat}(h:xs.any p=false):(cutAt xs k).any p=false:=by
 rw[zO]at h ⊢
 intro a ha
 rcases zau.1 ha with ha | ha
 ·exact h a (zbf ha)
 ·exact h a (zbm ha)
theorem qII{c:Cluster}{w:Int}(h:qai c=true):qai (qby c w).1=true:=by
 unfold qby
 split
 ·rw[zq h]
  split
  ·rename_i n x hn hx
   have hb:=qpu h hn
   simp only[qbH,zy,zW]at hb
   have kw:qai (setW c w (hears x n))=true:=by rw[qdZ h hx,qIi (qcr h hx) hb.2]
   rw[qpi kw,qIy,qIH (qa5.1 h).2.2.2.2.2.2.2]
   rfl
  ·exact h
 ·exact h
theorem qkT{α:Type}{sz:α→Nat}{y:α}(x:α):∀{xs:List α} {i:Nat},xs[i]?=some y→szS sz (xs.set i x)+sz y=szS sz xs+sz x
 | [],i,h=>by simp at h
 | a::xs,0,h=>by
  obtain rfl:a=y:=by simpa using h
  simp only[szS,List.set_cons_zero,zr,zar,zcs]
  omega
 | a::xs,i+1,h=>by
  have:=qkT (sz:=sz) x (xs:=xs) (i:=i) (by simpa using h)
  simp only[szS,List.set_cons_succ,zr,zar,zcs]at this ⊢
  omega
theorem qd4{c:Cluster}{i:Int}{x y:Worker}(h:wAt c i=some y):(setW c i x).sz+y.sz=c.sz+x.sz:=by
 have:=qkT (sz:=Worker.sz) x (qcS h).2.2
 simp only[setW,Cluster.sz]
 omega
theorem qkU{c:Cluster}{i:Int}{x y:Link}(h:lAt c i=some y):(setL c i x).sz+y.sz=c.sz+x.sz:=by
 have:=qkT (sz:=Link.sz) x (qdY h).2.2
 simp only[setL,Cluster.sz]
 omega
theorem qit{c:Cluster}{i:Int}{x:Token}:(setT c i x).sz=c.sz:=by
 simp only[setT,Cluster.sz,zn]
theorem qpv{c:Cluster}{x:List News}:(setN c x).sz+c.news.length=c.sz+x.length:=by
 simp only[setN,Cluster.sz]
 omega
theorem qIJ(g:Graph)(w:Worker):(qa1 g w).1.sz≤w.sz+2:=by
 unfold qa1
 split
 ·rename_i hc
  rw[zj]at hc
  split
  ·rename_i r q h1 h2
   have:=qG3 hc.1 w.cells r
   simp only[Worker.sz,h1,h2,zr,zh]
   split<;>(try simp only[zn])<;>omega
  ·exact Nat.le_add_right _ _
 ·exact Nat.le_add_right _ _
theorem qIK(g:Graph)(w:Worker):(qa2 g w).1.sz≤w.sz:=by
 unfold qa2
 split
 ·split
  ·rename_i r t h1 h2 h3
   simp only[Worker.sz,h1,h2,h3,zr,zh]
   omega
  ·exact zP _
 ·exact zP _
theorem qpw{w:Worker}{r:Record}{t:List Record}(h:w.staged=r::t):(qbI w t).sz+1=w.sz:=by
 simp only[qbI,Worker.sz,h,zr];omega
theorem qIL(w:Worker)(r:Record):(kept w r).sz=w.sz+1:=by
 simp only[kept,Worker.sz,zaf,zr,zh];omega
theorem qIM(w:Worker)(e:Int):(qcC w e).sz=w.sz:=by
 simp only[qcC,incAt,Worker.sz,zn]
theorem qIN(w:Worker)(r:Record):(received w r).sz=w.sz+1:=by
 simp only[received,incAt,Worker.sz,zn,zaf,zr,zh];omega
theorem qIO(w:Worker)(e:Int):(qb5 w e).sz=w.sz:=by
 simp only[qb5,Worker.sz,zn]
theorem qpx(w:Worker)(e:Int)(b:Bool):(told w e b).sz=w.sz+1:=by
 simp only[told,Worker.sz,zaf,zr,zh];omega
theorem qIP(w:Worker)(n:News):(hears w n).sz≤w.sz+1:=by
 unfold hears
 split
 ·omega
 ·rw[qpx];omega
theorem qIQ(l:Link)(r:Record):(qaE l r).1.sz≤l.sz+1:=by
 unfold qaE
 split<;>simp[Link.sz]
theorem qIR(l:Link):(qaB l).1.sz≤l.sz:=by
 unfold qaB
 split
 ·split
  ·exact zP _
  ·rename_i h;simp[Link.sz,h]
 ·exact zP _
theorem qIS(l:Link):(qbg l).1.sz=l.sz:=by
 unfold qbg
 split<;>rfl
theorem qIT{α:Type}(xs:List α)(k:Nat):(cutAt xs k).length≤xs.length:=by
 simp only[cutAt,zaf,zay,List.length_drop];omega
theorem qIU{c:Cluster}{e:Int}{t:Token}{x:Worker}(hw:c.workers.length≤4)(hx:wAt c t.place=some x)(h0:0≤t.place):(qaH c e t x).1.sz≤c.sz+4:=by
 unfold qaH
 have w1:∀t',(setW (setT c e t') t.place (qb5 x e)).sz+x.sz=c.sz+x.sz:=fun t'=>by
  have:=qd4 (c:=setT c e t') (x:=qb5 x e) (qg4.trans hx)
  rwa[qit,qIO]at this
 split
 ·split
  ·have:=w1 ⟨true,(c.workers.length:Int)-1,0,false,x.caps.getD e.toNat false⟩
   dsimp only;omega
  ·split
   ·split
    ·have:=w1 ⟨true,t.place-1,t.sum+x.sums.getD e.toNat 0,t.black||x.black.getD e.toNat false,t.capped||x.caps.getD e.toNat false⟩
     dsimp only;omega
    ·dsimp only;omega
   ·rename_i hp
    have e0:t.place=0:=by omega
    split
    ·rw[e0]at hx
     have a:=qd4 (c:=setT c e ⟨false,t.place,t.sum,t.black,t.capped⟩) (x:=told x e (t.capped||x.caps.getD e.toNat false)) (qg4.trans hx)
     rw[qit,qpx]at a
     have b:=qpv (c:=setW (setT c e ⟨false,t.place,t.sum,t.black,t.capped⟩) 0 (told x e (t.capped||x.caps.getD e.toNat false))) (x:=c.news++qbd (c.workers.length-1) e (t.capped||x.caps.getD e.toNat false))
     have d:(setW (setT c e ⟨false,t.place,t.sum,t.black,t.capped⟩) 0 (told x e (t.capped||x.caps.getD e.toNat false))).news=c.news:=rfl
     rw[d]at b
     simp only[zaf,qbd,zb,List.length_range]at b
     dsimp only
     simp only[qbd]
     omega
    ·dsimp only;rw[qit];omega
 ·dsimp only;omega
theorem qIV{c:Cluster}(h:qai c=true):c.workers.length≤4:=by
 obtain⟨h1,h2,_⟩:=qa5.1 h
 have:=qcq h1
 omega
theorem qIW(c:Cluster)(p:Pick):(stepPick c p).1.sz≤c.sz+4:=by
 have k0:c.sz≤c.sz+4:=by omega
 unfold stepPick
 split
 ·unfold qbo
  split
  ·split
   ·rename_i x hx
    have:=qd4 (x:=(qa1 c.graph x).1) hx
    have:=qIJ c.graph x
    dsimp only;omega
   ·exact k0
  ·exact k0
 split
 ·unfold qbp
  split
  ·split
   ·rename_i x hx
    have:=qd4 (x:=(qa2 c.graph x).1) hx
    have:=qIK c.graph x
    dsimp only;omega
   ·exact k0
  ·exact k0
 split
 ·unfold qbq
  split
  ·split
   ·rename_i x hx
    split
    ·rename_i r t hs
     have hu:=qpw hs
     unfold qf3
     split
     ·have:=qd4 (x:=kept (qbI x t) r) hx
      rw[qIL]at this
      dsimp only;omega
     ·split
      ·rename_i l hl
       split
       ·have a:=qkU (x:=(qaE l r).1) hl
        have b:=qd4 (c:=setL c (qaU c.graph p.a (qcO r.key c.graph.workers)) (qaE l r).1) (x:=qcC (qbI x t) r.stamp.epoch) (qg3.trans hx)
        rw[qIM]at b
        have:=qIQ l r
        dsimp only;omega
       ·exact k0
      ·exact k0
    ·exact k0
   ·exact k0
  ·exact k0
 split
 ·unfold qbx
  split
  ·split
   ·rename_i l x hl hx
    split
    ·have a:=qkU (x:=(qaB l).1) hl
     have b:=qd4 (c:=setL c (qaU c.graph p.a p.b) (qaB l).1) (x:=received x (qaB l).2.1) (qg3.trans hx)
     rw[qIN]at b
     have:=qIR l
     dsimp only;omega
    ·exact k0
   ·exact k0
  ·exact k0
 split
 ·unfold qbr
  split
  ·split
   ·rename_i l hl
    have a:=qkU (x:=(qbg l).1) hl
    have:=qIS l
    dsimp only;omega
   ·exact k0
  ·exact k0
 split
 ·unfold qbh
  split
  ·rename_i hc
   rw[zj]at hc
   split
   ·rename_i x0 t h0 ht
    split
    ·exact k0
    ·split
     ·rename_i x hx;exact qIU (qIV hc.1) hx (qcS hx).1
     ·exact k0
   ·exact k0
  ·exact k0
 split
 ·unfold qby
  split
  ·rename_i k hk
   split
   ·split
    ·rename_i n x hn hx
     have a:=qd4 (x:=hears x n) hx
     have b:=qpv (c:=setW c p.a (hears x n)) (x:=cutAt c.news k)
     have d:(setW c p.a (hears x n)).news=c.news:=rfl
     rw[d]at b
     have:=qIP x n
     have:=qIT c.news k
     dsimp only;omega
    ·exact k0
   ·exact k0
  ·exact k0
 ·exact k0
end Go.Proofs.YtdanpadojemjeaaGreat
