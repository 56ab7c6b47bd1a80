import Derived.Test.YtdkobdhckkjmeaaGreatP31
set_option linter.unusedVariables false
set_option linter.unusedSimpArgs false
namespace Go.Proofs.YtdkobdhckkjmeaaGreat
open Go.Sx Go.RowKit
def cutAt{α:Type}(xs:List α)(k:Nat):List α:=xs.take k++xs.drop (k+1)
def rec0:Record:=⟨0,⟨0,0⟩,0,0⟩
def incAt(xs:List Int)(e d:Int):List Int:=xs.set e.toNat (xs.getD e.toNat 0+d)
def qay(l:Link)(r:Record):Link×Bool:=
 if qbq l&&qaB r&&l.credits != 0&&decide (l.sent<1000000000) then (⟨l.cap,l.queue++[r],l.credits-1,l.back,l.sent+1,l.got⟩,true) else (l,false)
def qaq(l:Link):Link×Record×Bool:=
 if qbq l then match l.queue with
  | []=>(l,rec0,false)
  | r::q=>(⟨l.cap,q,l.credits,l.back+1,l.sent,l.got+1⟩,r,true)
 else (l,rec0,false)
def qaQ(l:Link):Link×Bool:=
 if qbq l&&l.back != 0 then (⟨l.cap,l.queue,l.credits+1,l.back-1,l.sent,l.got⟩,true) else (l,false)
def qaY(g:Graph)(w:Worker):Worker×Bool:=
 if qaw g&&qaJ g w then match w.staged,w.queue with
  | [],r::q=>(⟨q,(qau g w.cells r).2.1,w.inputs,(qau g w.cells r).1,w.sums,w.black,(if capped g r then w.caps.set r.stamp.epoch.toNat true else w.caps),w.dones⟩,true)
  | _,_=>(w,false)
 else (w,false)
def qaZ(g:Graph)(w:Worker):Worker×Bool:=
 if qaw g&&qaJ g w then match w.staged,w.queue,w.inputs with
  | [],[],r::t=>(⟨[r],[],t,w.cells,w.sums,w.black,w.caps,w.dones⟩,true)
  | _,_,_=>(w,false)
 else (w,false)
def qbf(w:Worker)(t:List Record):Worker:=⟨w.queue,t,w.inputs,w.cells,w.sums,w.black,w.caps,w.dones⟩
def kept(w:Worker)(r:Record):Worker:=⟨w.queue++[r],w.staged,w.inputs,w.cells,w.sums,w.black,w.caps,w.dones⟩
def received(w:Worker)(r:Record):Worker:=⟨w.queue++[r],w.staged,w.inputs,w.cells,incAt w.sums r.stamp.epoch (-1),w.black.set r.stamp.epoch.toNat true,w.caps,w.dones⟩
def qbZ(w:Worker)(e:Int):Worker:=⟨w.queue,w.staged,w.inputs,w.cells,incAt w.sums e 1,w.black,w.caps,w.dones⟩
def qaA(w:Worker)(e:Int):Worker:=⟨w.queue,w.staged,w.inputs,w.cells,w.sums,w.black.set e.toNat false,w.caps,w.dones⟩
def told(w:Worker)(e:Int)(b:Bool):Worker:=⟨w.queue,w.staged,w.inputs,w.cells,w.sums,w.black,w.caps,w.dones++[⟨e,b⟩]⟩
def hears(w:Worker)(n:News):Worker:=if qaz w n.epoch then w else told w n.epoch n.capped
def qfA(w:Worker)(e:Int):Bool:=w.inputs.any fun r=>decide (r.stamp.epoch≤e)
def qrY(w:Worker)(e:Int):Nat:=(qa6 e w.queue).length+(qa6 e w.staged).length
def qbF(w:Worker)(e:Int):Bool:=!qfA w e&&qrY w e==0
def setW(c:Cluster)(i:Int)(x:Worker):Cluster:=⟨c.graph,c.workers.set i.toNat x,c.links,c.tokens,c.news⟩
def setL(c:Cluster)(i:Int)(l:Link):Cluster:=⟨c.graph,c.workers,c.links.set i.toNat l,c.tokens,c.news⟩
def setT(c:Cluster)(i:Int)(t:Token):Cluster:=⟨c.graph,c.workers,c.links,c.tokens.set i.toNat t,c.news⟩
def setN(c:Cluster)(n:List News):Cluster:=⟨c.graph,c.workers,c.links,c.tokens,n⟩
def wAt(c:Cluster)(i:Int):Option Worker:=if 0≤i then c.workers[i.toNat]? else none
def lAt(c:Cluster)(i:Int):Option Link:=if 0≤i then c.links[i.toNat]? else none
def tAt(c:Cluster)(i:Int):Option Token:=if 0≤i then c.tokens[i.toNat]? else none
def qav(g:Graph)(a b:Int):Int:=if inR a 0 (g.workers-1)&&inR b 0 (g.workers-1) then a*g.workers+b else -1
def qbr(c:Cluster)(w:Int):Cluster×Bool:=
 if qai c then match wAt c w with
  | some x=>(setW c w (qaY c.graph x).1,(qaY c.graph x).2)
  | none=>(c,false)
 else (c,false)
def qbs(c:Cluster)(w:Int):Cluster×Bool:=
 if qai c then match wAt c w with
  | some x=>(setW c w (qaZ c.graph x).1,(qaZ c.graph x).2)
  | none=>(c,false)
 else (c,false)
def qc9(c:Cluster)(w:Int)(x:Worker)(r:Record)(t:List Record)(o:Int):Cluster×Bool:=
 if o=w then (setW c w (kept (qbf x t) r),true)
 else match lAt c (qav c.graph w o) with
  | some l=>if (qay l r).2 then (setW (setL c (qav c.graph w o) (qay l r).1) w (qbZ (qbf x t) r.stamp.epoch),true) else (c,false)
  | none=>(c,false)
def qbk(c:Cluster)(w:Int):Cluster×Bool:=
 if qai c then match wAt c w with
  | some x=>match x.staged with
   | r::t=>qc9 c w x r t (qax r.key c.graph.workers)
   | []=>(c,false)
  | none=>(c,false)
 else (c,false)
def qbw(c:Cluster)(a b:Int):Cluster×Bool:=
 if qai c&&a != b then match lAt c (qav c.graph a b),wAt c b with
  | some l,some x=>if (qaq l).2.2 then (setW (setL c (qav c.graph a b) (qaq l).1) b (received x (qaq l).2.1),true) else (c,false)
  | _,_=>(c,false)
 else (c,false)
def qbt(c:Cluster)(a b:Int):Cluster×Bool:=
 if qai c&&a != b then match lAt c (qav c.graph a b) with
  | some l=>(setL c (qav c.graph a b) (qaQ l).1,(qaQ l).2)
  | none=>(c,false)
 else (c,false)
def qaR(n:Nat)(e:Int)(b:Bool):List News:=(List.range n).map fun k:Nat=>⟨(k:Int)+1,e,b⟩
def tokenAt(c:Cluster)(e:Int)(t:Token)(x:Worker):Cluster×Bool:=
 if qbF x e then
  if !t.going then (setW (setT c e ⟨true,(c.workers.length:Int)-1,0,false,x.caps.getD e.toNat false⟩) t.place (qaA x e),true)
  else if 0<t.place then
   if inR (t.sum+x.sums.getD e.toNat 0) (-1000000) 1000000 then
    (setW (setT c e ⟨true,t.place-1,t.sum+x.sums.getD e.toNat 0,t.black||x.black.getD e.toNat false,t.capped||x.caps.getD e.toNat false⟩) t.place (qaA x e),true)
   else (c,false)
  else if !t.black&&!x.black.getD e.toNat false&&t.sum+x.sums.getD e.toNat 0==0 then
   (setN (setW (setT c e ⟨false,t.place,t.sum,t.black,t.capped⟩) 0 (told x e (t.capped||x.caps.getD e.toNat false))) (c.news++qaR (c.workers.length-1) e (t.capped||x.caps.getD e.toNat false)),true)
  else (setT c e ⟨false,t.place,t.sum,t.black,t.capped⟩,true)
 else (c,false)
def qbc(c:Cluster)(e:Int):Cluster×Bool:=
 if qai c&&inR e 0 3 then match wAt c 0,tAt c e with
  | some x0,some t=>if qaz x0 e then (c,false) else match wAt c t.place with
   | some x=>tokenAt c e t x
   | none=>(c,false)
  | _,_=>(c,false)
 else (c,false)
def qbx(c:Cluster)(w:Int):Cluster×Bool:=
 match c.news.findIdx? (fun n=>n.dest==w) with
 | some k=>if qai c then match c.news[k]?,wAt c w with
   | some n,some x=>(setN (setW c w (hears x n)) (cutAt c.news k),true)
   | _,_=>(c,false)
  else (c,false)
 | none=>(c,false)
def stepPick(c:Cluster)(p:Pick):Cluster×Bool:=
 if p.kind=1 then qbr c p.a else if p.kind=2 then qbs c p.a else if p.kind=3 then qbk c p.a
 else if p.kind=4 then qbw c p.a p.b else if p.kind=5 then qbt c p.a p.b else if p.kind=6 then qbc c p.a
 else if p.kind=7 then qbx c p.a else (c,false)
end Go.Proofs.YtdkobdhckkjmeaaGreat
namespace Go.Proofs.YtdkobdhckkjmeaaGreat
open Go.Sx Go.RowKit
section
variable {α : Type}
theorem qm2{p:α→Bool}{xs:List α}{i:Nat}{x:α}(h:xs.any p=false)(hi:i<xs.length):(xs.set i x).any p=p x:=by
 cases hx:p x with
 | true=>exact zcj.2 ⟨x,List.mem_iff_getElem.2 ⟨i,by simpa using hi,by simp⟩,hx⟩
 | false=>
  rw[zP]at h ⊢;intro a ha;rcases zbf ha with h1 | rfl
  ·exact h a h1
  ·simp[hx]
theorem qrZ{p:Nat→α→Bool}{x:α}:∀{xs:List α} {k i:Nat},anyI p k xs=false→i<xs.length→anyI p k (xs.set i x)=p (k+i) x
 | [],_,_,_,h=>by simp at h
 | a::xs,k,0,h,_=>by
  simp only[anyI,zy]at h;simp only[List.set_cons_zero,anyI,h.2,Bool.or_false,zbj]
 | a::xs,k,i+1,h,hi=>by
  simp only[anyI,zy]at h;simp only[List.set_cons_succ,anyI,h.1,zal];rw[qrZ h.2 (by simpa using hi),show k+1+i=k+(i+1) by omega]
theorem qgA{p:Nat→α→Bool}{xs:List α}(h:∀i a,xs[i]?=some a→p i a=false):anyI p 0 xs=false:=by
 cases hx:anyI p 0 xs with
 | false=>rfl
 | true=>
  obtain⟨i,a,h1,h2,_⟩:=qlX hx;rw[zv,h i a h1]at h2;cases h2
theorem qfB{p:Nat→α→Bool}{xs:List α}(h:anyI p 0 xs=false){i:Nat}{a:α}(ha:xs[i]?=some a):p i a=false:=by
 have:=qgc h i a ha;rwa[zv]at this
end
theorem qaH{c:Cluster}:qai c=true↔qaw c.graph=true∧(c.workers.length:Int)=c.graph.workers∧(c.links.length:Int)=c.graph.workers*c.graph.workers∧c.tokens.length=4∧(c.workers.any fun w=>!qaJ c.graph w)=false∧anyI (qbE c.graph) 0 c.links=false∧c.tokens.any (qbO c.graph.workers)=false∧c.news.any (qbP c.graph.workers)=false:=by
 simp only[qai,zj,zS,zE]
theorem qaC{c:Cluster}{i:Int}{x:Worker}(h:wAt c i=some x):0≤i∧i.toNat<c.workers.length∧c.workers[i.toNat]?=some x:=by
 unfold wAt at h;split at h
 ·exact⟨‹_›,lt_of h,h⟩
 ·cases h
theorem qbl{c:Cluster}{i:Int}{x:Link}(h:lAt c i=some x):0≤i∧i.toNat<c.links.length∧c.links[i.toNat]?=some x:=by
 unfold lAt at h;split at h
 ·exact⟨‹_›,lt_of h,h⟩
 ·cases h
theorem qfC{c:Cluster}{i:Int}{x:Token}(h:tAt c i=some x):0≤i∧i.toNat<c.tokens.length∧c.tokens[i.toNat]?=some x:=by
 unfold tAt at h;split at h
 ·exact⟨‹_›,lt_of h,h⟩
 ·cases h
theorem qev{c:Cluster}{i:Int}{x y:Worker}(h:qai c=true)(hy:wAt c i=some y):qai (setW c i x)=qaJ c.graph x:=by
 obtain⟨h1,h2,h3,h4,h5,h6,h7,h8⟩:=qaH.1 h;have hi:=(qaC hy).2.1;simp only[qai,setW,zn,qm2 h5 hi,h1,h2,h3,h4,h6,h7,h8,zby,zbc,zcs,zbl,Bool.not_not]
theorem qm3{c:Cluster}{i:Int}{x y:Link}(h:qai c=true)(hy:lAt c i=some y):qai (setL c i x)=!qbE c.graph i.toNat x:=by
 obtain⟨h1,h2,h3,h4,h5,h6,h7,h8⟩:=qaH.1 h;have hi:=(qbl hy).2.1;simp only[qai,setL,zn,qrZ h6 hi,zv,h1,h2,h3,h4,h5,h7,h8,zby,zbc,zcs,zbl]
theorem qJb{c:Cluster}{i:Int}{x y:Token}(h:qai c=true)(hy:tAt c i=some y):qai (setT c i x)=!qbO c.graph.workers x:=by
 obtain⟨h1,h2,h3,h4,h5,h6,h7,h8⟩:=qaH.1 h;have hi:=(qfC hy).2.1;simp only[qai,setT,zn,qm2 h7 hi,h1,h2,h3,h4,h5,h6,h8,zby,zbc,zcs,zbl]
theorem qr0{c:Cluster}{x:List News}(h:qai c=true):qai (setN c x)=!(x.any (qbP c.graph.workers)):=by
 obtain⟨h1,h2,h3,h4,h5,h6,h7,h8⟩:=qaH.1 h;simp only[qai,setN,h1,h2,h3,h4,h5,h6,h7,zby,zbc,zbl]
theorem qbu{c:Cluster}{i:Int}{x:Worker}(h:qai c=true)(hx:wAt c i=some x):qaJ c.graph x=true:=by
 have h5:=(qaH.1 h).2.2.2.2.1;rw[zP]at h5;simpa using h5 x (qag (qaC hx).2.2)
theorem qda{c:Cluster}{i:Int}{x:Link}(h:qai c=true)(hx:lAt c i=some x):qbE c.graph i.toNat x=false:=
 qfB (qaH.1 h).2.2.2.2.2.1 (qbl hx).2.2
theorem qgB{c:Cluster}{i:Int}{x:Token}(h:qai c=true)(hx:tAt c i=some x):qbO c.graph.workers x=false:=by
 have h5:=(qaH.1 h).2.2.2.2.2.2.1;rw[zP]at h5;simpa using h5 x (qag (qfC hx).2.2)
theorem qdV{c:Cluster}{i:Int}{x:Worker}(hx:wAt c i=some x):setW c i x=c:=by
 obtain⟨_,h2,h3⟩:=qaC hx;have:c.workers.set i.toNat x=c.workers:=by
  rw[zu h2]at h3;rw[←zx h3];exact List.set_getElem_self h2
 unfold setW;rw[this]
theorem qJc{c:Cluster}{i:Int}{x:Link}(hx:lAt c i=some x):setL c i x=c:=by
 obtain⟨_,h2,h3⟩:=qbl hx;have:c.links.set i.toNat x=c.links:=by
  rw[zu h2]at h3;rw[←zx h3];exact List.set_getElem_self h2
 unfold setL;rw[this]
theorem qbd{g:Graph}{w:Worker}:qaJ g w=true↔qaV g w.queue=true∧qaV g w.staged=true∧qaV g w.inputs=true∧qbI w.cells=true∧w.sums.length=4∧w.black.length=4∧w.caps.length=4∧anyI (inBad w.inputs) 0 w.inputs=false∧w.sums.any qcy=false∧anyI (qbT w.dones) 0 w.dones=false:=by
 simp only[qaJ,zj,zS,zE]
theorem qdb{g:Graph}{r:Record}{q:List Record}:qaV g (r::q)=true↔qbA g r=false∧qaV g q=true:=by
 simp only[qaV,zcg,zS,zy]
theorem qm4{g:Graph}{r:Record}{q:List Record}:qaV g (q++[r])=true↔qaV g q=true∧qbA g r=false:=by
 simp only[qaV,List.any_append,zcg,List.any_nil,Bool.or_false,zS,zy]
theorem qJd{r:Record}{t:List Record}(h:anyI (inBad (r::t)) 0 (r::t)=false):anyI (inBad t) 0 t=false:=by
 refine qgA fun i a ha=>?_
 have k:=qfB h (i:=i+1) (a:=a) (by simpa using ha);unfold inBad at k ⊢;rw[zy]at k ⊢;refine⟨k.1,?_⟩;cases i with
 | zero=>rfl
 | succ j=>simpa using k.2
theorem qJe{xs:List Done}{d:Done}(h:anyI (qbT xs) 0 xs=false)(h1:inR d.epoch 0 3=true)(h2:(xs.any fun q=>q.epoch==d.epoch)=false):anyI (qbT (xs++[d])) 0 (xs++[d])=false:=by
 refine qgA fun i a ha=>?_
 by_cases hi:i<xs.length
 ·rw[zbg hi]at ha;have k:=qfB h ha;unfold qbT at k ⊢;rw[zbw (by omega)];exact k
 ·have hl:=lt_of ha;simp only[zab,zq,zh]at hl;have e:i=xs.length:=by omega
  subst e;rw[zas (zO _),Nat.sub_self]at ha;obtain rfl:d=a:=by simpa using ha
  unfold qbT;rw[zbw (zO _),zC,h1,h2];rfl
theorem qJf{g:Graph}{w:Worker}{r:Record}(h:qaJ g w=true)(hr:qbA g r=false):qaJ g (kept w r)=true:=by
 obtain⟨h1,h2⟩:=qbd.1 h;exact qbd.2 ⟨qm4.2 ⟨h1,hr⟩,h2⟩
theorem qj1{g:Graph}{w:Worker}{r:Record}{t:List Record}(h:qaJ g w=true)(hs:w.staged=r::t):qaJ g (qbf w t)=true∧qbA g r=false:=by
 obtain⟨h1,h2,h3⟩:=qbd.1 h;rw[hs,qdb]at h2;exact⟨qbd.2 ⟨h1,h2.2,h3⟩,h2.1⟩
theorem qJg{g:Graph}{w:Worker}{e:Int}(h:qaJ g w=true):qaJ g (qaA w e)=true:=by
 obtain⟨h1,h2,h3,h4,h5,h6,h7⟩:=qbd.1 h;exact qbd.2 ⟨h1,h2,h3,h4,h5,by simp only[qaA,zn];exact h6,h7⟩
theorem qr1{g:Graph}{w:Worker}{e:Int}{b:Bool}(h:qaJ g w=true)(he:inR e 0 3=true)(hd:qaz w e=false):qaJ g (told w e b)=true:=by
 obtain⟨h1,h2,h3,h4,h5,h6,h7,h8,h9,h10⟩:=qbd.1 h;exact qbd.2 ⟨h1,h2,h3,h4,h5,h6,h7,h8,h9,qJe h10 he hd⟩
theorem qJh{g:Graph}{w:Worker}{n:News}(h:qaJ g w=true)(he:inR n.epoch 0 3=true):qaJ g (hears w n)=true:=by
 unfold hears;cases hd:qaz w n.epoch with
 | true=>exact h
 | false=>exact qr1 h he hd
theorem qr2{g:Graph}{w:Worker}{e d:Int}{k:Nat}(h:qaJ g w=true)(hk:e.toNat=k)(h4:k<4):(incAt w.sums e d).length=4∧(incAt w.sums e d).any qcy=qcy (w.sums.getD e.toNat 0+d):=by
 obtain⟨h1,h2,h3,_,h5,h6,h7,h8,h9,h10⟩:=qbd.1 h;exact⟨by simp only[incAt,zn];exact h5,qm2 h9 (by omega)⟩
theorem qdC{g:Graph}{r:Record}(h:qbA g r=false):0≤r.stamp.epoch∧r.stamp.epoch≤3:=by
 simp only[qbA,qaB,qbb,inR,zy,zX,zj,zi]at h;omega
theorem qJi{g:Graph}{w:Worker}{e:Int}(h:qaJ g w=true)(he:0≤e∧e≤3):qaJ g (qbZ w e)=inR (w.sums.getD e.toNat 0+1) (-1000000) 1000000:=by
 obtain⟨k1,k2⟩:=qr2 (d:=1) h (e:=e) rfl (by omega);obtain⟨h1,h2,h3,h4,h5,h6,h7,h8,h9,h10⟩:=qbd.1 h;simp only[qaJ,qbZ,h1,h2,h3,h4,k1,h6,h7,h8,h10,k2,qcy,zby,zbc,zcs,zbl,Bool.not_not]
theorem qJj{g:Graph}{w:Worker}{r:Record}(h:qaJ g w=true)(hr:qbA g r=false):qaJ g (received w r)=inR (w.sums.getD r.stamp.epoch.toNat 0+-1) (-1000000) 1000000:=by
 have he:=qdC hr;obtain⟨k1,k2⟩:=qr2 (d:=-1) h (e:=r.stamp.epoch) rfl (by omega);obtain⟨h1,h2,h3,h4,h5,h6,h7,h8,h9,h10⟩:=qbd.1 h;have hq:=qm4.2 ⟨h1,hr⟩;simp only[qaJ,received,hq,h2,h3,h4,k1,zn,h6,h7,h8,h10,k2,qcy,zby,zbc,zcs,zbl,Bool.not_not]
theorem qJk{g:Graph}{w:Worker}(h:qaJ g w=true):qaJ g (qaZ g w).1=true:=by
 unfold qaZ;split
 ·split
  ·rename_i r t h1 h2 h3;obtain⟨_,_,k3,k4,k5,k6,k7,k8,k9,k10⟩:=qbd.1 h;rw[h3]at k3 k8;exact qbd.2 ⟨qdb.2 ⟨(qdb.1 k3).1,rfl⟩,rfl,(qdb.1 k3).2,k4,k5,k6,k7,qJd k8,k9,k10⟩
  ·exact h
 ·exact h
theorem qJl:∀{xs:List Cell},qbI xs=true→∀i a b,xs[i]?=some a→xs[i+1]?=some b→qbg a b<0:=by
 intro xs h i a b h1 h2;simp only[qbI,zS,zP]at h;have hm:(a,b)∈xs.zip (xs.drop 1):=by
  refine qag (i:=i) ?_;rw[List.getElem?_zip_eq_some];exact⟨h1,by rw[zA,Nat.add_comm];exact h2⟩
 have:=h _ hm;simp only[qjU,zi]at this;omega
def qew(a:Cell):List Int:=[a.epoch,a.op,a.key,a.val]
theorem qr3(a b:Cell):qbg a b=cmpL (qew a) (qew b):=rfl
theorem qm5{a b c:Cell}(h1:qbg a b<0)(h2:qbg b c<0):qbg a c<0:=by
 rw[qr3] at*;exact qmC (qew a) (qew b) (qew c) rfl rfl h1 h2
theorem qJm{a b:Cell}(h1:¬qbg a b<0)(h2:a≠b):qbg b a<0:=by
 rw[qr3] at*;refine Classical.byContradiction fun h=>h2 ?_
 have:=qmD (qew a) (qew b) rfl h1 h;simp only[qew,zbr,and_true]at this;obtain⟨x1,x2,x3,x4⟩:=this;cases a;cases b;simp only[Cell.mk.injEq];exact⟨x2,x1,x3,x4⟩
theorem qr4:∀{xs:List Cell},qbI xs=true→xs.Pairwise fun a b=>qbg a b<0
 | [],_=>List.Pairwise.nil
 | [a],_=>List.pairwise_singleton _ a
 | a::b::xs,h=>by
  have ht:qbI (b::xs)=true:=by
   simp only[qbI,List.drop_succ_cons,zck,List.zip_cons_cons,zcg,Bool.not_or,zj]at h ⊢;exact h.2
  have hs:=qr4 ht;have hab:=qJl h 0 a b rfl rfl;refine List.Pairwise.cons (fun c hc=>?_) hs;rcases zL.1 hc with rfl | hc
  ·exact hab
  ·exact qm5 hab ((List.pairwise_cons.1 hs).1 c hc)
theorem qr5{xs:List Cell}(h:xs.Pairwise fun a b=>qbg a b<0):qbI xs=true:=by
 simp only[qbI,zS,zP];rintro⟨a,b⟩ hp;obtain⟨i,hi⟩:=List.getElem?_of_mem hp;obtain⟨h1,h2⟩:=qhN hi;have hj:=lt_of h2;have:=List.pairwise_iff_getElem.1 h i (i+1) (by omega) hj (by omega);rw[zu (by omega)]at h1 h2;rw[zx h1,zx h2]at this;replace this:qbg a b<0:=this;show ¬decide (qbg a b≥0)=true;simp only[zi];omega
theorem qr6{xs:List Cell}(x:Cell)(h:xs.Pairwise fun a b=>qbg a b<0):(qbD xs x).Pairwise fun a b=>qbg a b<0:=by
 unfold qbD;split
 ·exact h
 ·rename_i hno;have hx:∀a∈xs,a≠x:=by
   intro a ha e;exact hno (zcj.2 ⟨a,ha,by simp[e]⟩)
  have hb:∀i a,xs[i]?=some a→i<qbY xs x→qbg a x<0:=by
   intro i a ha hi;unfold qbY at hi;cases hf:xs.findIdx? (fun a=>!decide (qbg a x<0)) with
   | none=>
    rw[zbs]at hf;simpa using hf a (qag ha)
   | some k=>
    rw[hf]at hi;simp only[zV]at hi;rw[zai]at hf;obtain⟨hk,_,h3⟩:=hf;have:=h3 i hi;rw[zu (by omega)]at ha;rw[zx ha]at this;simpa using this
  have ha:∀i a,xs[i]?=some a→qbY xs x≤i→qbg x a<0:=by
   intro i a ha hi;have hk:qbY xs x<xs.length:=by have:=lt_of ha;omega
   obtain⟨b,hb2⟩:=qal hk;have h0:¬qbg b x<0:=by
    unfold qbY at hb2 hk;cases hf:xs.findIdx? (fun a=>!decide (qbg a x<0)) with
    | none=>rw[hf]at hk;simp at hk
    | some k=>
     rw[hf]at hb2;simp only[zV]at hb2;rw[zai]at hf;obtain⟨hk2,h2,_⟩:=hf;rw[zu hk2]at hb2;rw[zx hb2]at h2;simpa using h2
   have hxb:=qJm h0 (hx b (qag hb2));rcases Nat.lt_or_eq_of_le hi with hlt | heq
   ·have hj:=lt_of ha;have:=List.pairwise_iff_getElem.1 h (qbY xs x) i hk hj hlt;rw[zu hk]at hb2;rw[zu hj]at ha;rw[zx hb2,zx ha]at this;exact qm5 hxb this
   ·rw[heq,ha]at hb2;rw[zx hb2];exact hxb
  rw[List.pairwise_append];refine⟨h.sublist (List.take_sublist _ _),List.Pairwise.cons (fun c hc=>?_) (h.sublist (List.drop_sublist _ _)),fun a ha2 c hc=>?_⟩
  ·obtain⟨i,hi⟩:=List.getElem?_of_mem hc;rw[zA]at hi;exact ha _ _ hi (by omega)
  ·obtain⟨i,hi⟩:=List.getElem?_of_mem ha2;rw[zF]at hi;split at hi
   ·rename_i hlt;have h1:=hb i a hi hlt;rcases zL.1 hc with rfl | hc
    ·exact h1
    ·obtain⟨j,hj⟩:=List.getElem?_of_mem hc;rw[zA]at hj;exact qm5 h1 (ha _ _ hj (by omega))
   ·cases hi
theorem qJn(kind:Int){xs:List Cell}(x:Cell)(h:qbI xs=true):qbI (qaj kind xs x).1=true:=by
 have hs:=qr4 h;have h1:=qr5 (qr6 x hs);have h2:=qr5 (qr6 x (hs.sublist (List.filter_sublist (p:=fun a=>!qaF x a))));unfold qaj;split
 ·split
  ·exact h
  ·exact h1
 ·split
  ·unfold qba;split
   ·exact h
   ·exact h2
  ·exact h
theorem qJo{g:Graph}{cs:List Cell}(r:Record)(h:qbI cs=true):qbI (qau g cs r).1=true:=by
 unfold qau;cases qaP g r.op with
 | none=>exact h
 | some x=>
  have hr:=qJn x.kind ⟨r.op,r.stamp.epoch,r.key,r.val⟩ h;simp only[qas];split
  ·split
   ·exact h
   ·split
    ·exact hr
    ·split
     ·exact hr
     ·exact hr
  ·exact h
theorem qJp{x:Node}{k v:Int}(hx:qab x=true)(hi:qaL k v=true):qaL (qak x k v).1 (qak x k v).2.1=true:=by
 have hx':=hx;simp only[qab,zj]at hx;have ha:=hx.1.1.1.1;have hi':=hi;simp only[qaL,inR,zj,zi]at hi;unfold qak;rw[hx',hi',Bool.and_self,zp rfl];unfold abOk at ha;split
 ·rename_i h2;rw[zp h2]at ha;simp only[inR,zj,zi]at ha;have hl:0≤less (v+x.a) 999∧less (v+x.a) 999≤999:=by unfold less;split<;>omega
  simp only[qaL,inR,zj,zi];omega
 ·rename_i h2;rw[zo h2]at ha;split
  ·rename_i h4;rw[zo (by omega),zp h4]at ha;simp only[inR,zj,zi]at ha;simp only[qaL,inR,zj,zi];rw[Int.tmod_eq_emod_of_nonneg (by omega)];omega
  ·split
   ·exact hi'
   ·exact hi'
theorem qJq{g:Graph}(h:qaw g=true){op:Int}{x:Node}(hn:qaP g op=some x):qbv g op.toNat x=false:=by
 simp only[qaw,zj,zS]at h;unfold qaP at hn;split at hn
 ·exact qfB h.2 hn
 ·cases hn
theorem qr7{g:Graph}(h:qaw g=true){op:Int}{x:Node}(hn:qaP g op=some x){s:Stamp}{k v:Int}(hs:qbb s=true)(hi:qaL k v=true):qaV g (sends x s k v)=true:=by
 have hb:=qJq h hn;have hx:=qm1 h hn;simp only[qab,zj]at hx;simp only[qbv,zy]at hb;have he:=hb.2;rw[zP]at he;simp only[qaV,sends,List.any_map,zS,zP];intro o ho;have h1:=qmB hx.2 ho;have h2:=he o ho;simp only[qa1,zbi,not_or,zi]at h2;simp only[Function.comp,qbA,qaB,h1,hs,hi,Bool.and_self,zZ,zal,zi];omega
theorem qJr{g:Graph}{cs:List Cell}{r:Record}:qaV g (qau g cs r).2.1=true:=by
 unfold qau;cases hn:qaP g r.op with
 | none=>rfl
 | some x=>
  simp only[qas];split
  ·rename_i hg;rw[zj]at hg;obtain⟨hg,hr⟩:=hg;have hr':=hr;simp only[qaB,zj]at hr;have hc:=qJp (qm1 hg hn) hr.2;split
   ·rfl
   ·split
    ·rfl
    ·split
     ·cases ht:(qaG r.stamp).2 with
      | false=>rfl
      | true=>
       refine qr7 hg hn ?_ hc;unfold qaG at ht ⊢;split
       ·rename_i h1;simp only[zj,qbb,inR,zi]at h1 ⊢;omega
       ·rename_i h1;rw[zo h1]at ht;cases ht
     ·exact qr7 hg hn hr.1.2 hc
  ·rfl
theorem qJs{g:Graph}{w:Worker}(h:qaJ g w=true):qaJ g (qaY g w).1=true:=by
 unfold qaY;split
 ·split
  ·rename_i r q h1 h2;obtain⟨k1,k2,k3,k4,k5,k6,k7,k8,k9,k10⟩:=qbd.1 h;rw[h2,qdb]at k1;refine qbd.2 ⟨k1.2,qJr,k3,qJo r k4,k5,k6,?_,k8,k9,k10⟩;split
   ·rw[zn];exact k7
   ·exact k7
  ·exact h
 ·exact h
