/- Every step of a valid cluster leaves it valid, but for a sum that grows too great. -/
import Derived.Test.YtdkobdhckkjmeaaGreatP21
import Derived.Test.YtdkobdhckkjmeaaGreatC0
import Derived.Test.YtdkobdhckkjmeaaGreatGT
import Derived.Test.YtdkobdhckkjmeaaGreatP18
set_option linter.unusedVariables false
set_option linter.unusedSimpArgs false
namespace Go.Proofs.YtdkobdhckkjmeaaGreat
open Go.Sx Go.RowKit
section
variable {α : Type}
theorem qm4{p:α→Bool}{xs:List α}{i:Nat}{x:α}(h:xs.any p=false)(hi:i<xs.length):(xs.set i x).any p=p x:=by
 cases hx:p x with
 | true=>exact zcj.2 ⟨x,List.mem_iff_getElem.2 ⟨i,by simpa using hi,by simp⟩,hx⟩
 | false=>
  rw[zP]at h ⊢;intro a ha;rcases zbf ha with h1 | rfl
  ·exact h a h1
  ·simp[hx]
theorem qr5{p:Nat→α→Bool}{x:α}:∀{xs:List α} {k i:Nat},anyI p k xs=false→i<xs.length→anyI p k (xs.set i x)=p (k+i) x
 | [],_,_,_,h=>by simp at h
 | a::xs,k,0,h,_=>by
  simp only[anyI,zy]at h;simp only[List.set_cons_zero,anyI,h.2,Bool.or_false,zbj]
 | a::xs,k,i+1,h,hi=>by
  simp only[anyI,zy]at h;simp only[List.set_cons_succ,anyI,h.1,zal];rw[qr5 h.2 (by simpa using hi),show k+1+i=k+(i+1) by omega]
theorem qgD{p:Nat→α→Bool}{xs:List α}(h:∀i a,xs[i]?=some a→p i a=false):anyI p 0 xs=false:=by
 cases hx:anyI p 0 xs with
 | false=>rfl
 | true=>
  obtain⟨i,a,h1,h2,_⟩:=ql2 hx;rw[zv,h i a h1]at h2;cases h2
theorem qfH{p:Nat→α→Bool}{xs:List α}(h:anyI p 0 xs=false){i:Nat}{a:α}(ha:xs[i]?=some a):p i a=false:=by
 have:=qgg h i a ha;rwa[zv]at this
end
theorem qaH{c:Cluster}:qai c=true↔qax c.graph=true∧(c.workers.length:Int)=c.graph.workers∧(c.links.length:Int)=c.graph.workers*c.graph.workers∧c.tokens.length=4∧(c.workers.any fun w=>!qaK c.graph w)=false∧anyI (qbE c.graph) 0 c.links=false∧c.tokens.any (qbP c.graph.workers)=false∧c.news.any (qbQ c.graph.workers)=false:=by
 simp only[qai,zj,zS,zE]
theorem qaD{c:Cluster}{i:Int}{x:Worker}(h:wAt c i=some x):0≤i∧i.toNat<c.workers.length∧c.workers[i.toNat]?=some x:=by
 unfold wAt at h;split at h
 ·exact⟨‹_›,lt_of h,h⟩
 ·cases h
theorem qbl{c:Cluster}{i:Int}{x:Link}(h:lAt c i=some x):0≤i∧i.toNat<c.links.length∧c.links[i.toNat]?=some x:=by
 unfold lAt at h;split at h
 ·exact⟨‹_›,lt_of h,h⟩
 ·cases h
theorem qfI{c:Cluster}{i:Int}{x:Token}(h:tAt c i=some x):0≤i∧i.toNat<c.tokens.length∧c.tokens[i.toNat]?=some x:=by
 unfold tAt at h;split at h
 ·exact⟨‹_›,lt_of h,h⟩
 ·cases h
theorem qez{c:Cluster}{i:Int}{x y:Worker}(h:qai c=true)(hy:wAt c i=some y):qai (setW c i x)=qaK c.graph x:=by
 obtain⟨h1,h2,h3,h4,h5,h6,h7,h8⟩:=qaH.1 h;have hi:=(qaD hy).2.1;simp only[qai,setW,zn,qm4 h5 hi,h1,h2,h3,h4,h6,h7,h8,zby,zbc,zcs,zbl,Bool.not_not]
theorem qm5{c:Cluster}{i:Int}{x y:Link}(h:qai c=true)(hy:lAt c i=some y):qai (setL c i x)=!qbE c.graph i.toNat x:=by
 obtain⟨h1,h2,h3,h4,h5,h6,h7,h8⟩:=qaH.1 h;have hi:=(qbl hy).2.1;simp only[qai,setL,zn,qr5 h6 hi,zv,h1,h2,h3,h4,h5,h7,h8,zby,zbc,zcs,zbl]
theorem qIT{c:Cluster}{i:Int}{x y:Token}(h:qai c=true)(hy:tAt c i=some y):qai (setT c i x)=!qbP c.graph.workers x:=by
 obtain⟨h1,h2,h3,h4,h5,h6,h7,h8⟩:=qaH.1 h;have hi:=(qfI hy).2.1;simp only[qai,setT,zn,qm4 h7 hi,h1,h2,h3,h4,h5,h6,h8,zby,zbc,zcs,zbl]
theorem qr6{c:Cluster}{x:List News}(h:qai c=true):qai (setN c x)=!(x.any (qbQ c.graph.workers)):=by
 obtain⟨h1,h2,h3,h4,h5,h6,h7,h8⟩:=qaH.1 h;simp only[qai,setN,h1,h2,h3,h4,h5,h6,h7,zby,zbc,zbl]
theorem qbu{c:Cluster}{i:Int}{x:Worker}(h:qai c=true)(hx:wAt c i=some x):qaK c.graph x=true:=by
 have h5:=(qaH.1 h).2.2.2.2.1;rw[zP]at h5;simpa using h5 x (qag (qaD hx).2.2)
theorem qdb{c:Cluster}{i:Int}{x:Link}(h:qai c=true)(hx:lAt c i=some x):qbE c.graph i.toNat x=false:=
 qfH (qaH.1 h).2.2.2.2.2.1 (qbl hx).2.2
theorem qgE{c:Cluster}{i:Int}{x:Token}(h:qai c=true)(hx:tAt c i=some x):qbP c.graph.workers x=false:=by
 have h5:=(qaH.1 h).2.2.2.2.2.2.1;rw[zP]at h5;simpa using h5 x (qag (qfI hx).2.2)
theorem qdZ{c:Cluster}{i:Int}{x:Worker}(hx:wAt c i=some x):setW c i x=c:=by
 obtain⟨_,h2,h3⟩:=qaD hx;have:c.workers.set i.toNat x=c.workers:=by
  rw[zu h2]at h3;rw[←zx h3];exact List.set_getElem_self h2
 unfold setW;rw[this]
theorem qIU{c:Cluster}{i:Int}{x:Link}(hx:lAt c i=some x):setL c i x=c:=by
 obtain⟨_,h2,h3⟩:=qbl hx;have:c.links.set i.toNat x=c.links:=by
  rw[zu h2]at h3;rw[←zx h3];exact List.set_getElem_self h2
 unfold setL;rw[this]
theorem qbd{g:Graph}{w:Worker}:qaK g w=true↔qaW g w.queue=true∧qaW g w.staged=true∧qaW g w.inputs=true∧qbI w.cells=true∧w.sums.length=4∧w.black.length=4∧w.caps.length=4∧anyI (inBad w.inputs) 0 w.inputs=false∧w.sums.any qcA=false∧anyI (qbU w.dones) 0 w.dones=false:=by
 simp only[qaK,zj,zS,zE]
theorem qdc{g:Graph}{r:Record}{q:List Record}:qaW g (r::q)=true↔qbB g r=false∧qaW g q=true:=by
 simp only[qaW,zcg,zS,zy]
theorem qm6{g:Graph}{r:Record}{q:List Record}:qaW g (q++[r])=true↔qaW g q=true∧qbB g r=false:=by
 simp only[qaW,List.any_append,zcg,List.any_nil,Bool.or_false,zS,zy]
theorem qIV{r:Record}{t:List Record}(h:anyI (inBad (r::t)) 0 (r::t)=false):anyI (inBad t) 0 t=false:=by
 refine qgD fun i a ha=>?_
 have k:=qfH h (i:=i+1) (a:=a) (by simpa using ha);unfold inBad at k ⊢;rw[zy]at k ⊢;refine⟨k.1,?_⟩;cases i with
 | zero=>rfl
 | succ j=>simpa using k.2
theorem qIW{xs:List Done}{d:Done}(h:anyI (qbU xs) 0 xs=false)(h1:inR d.epoch 0 3=true)(h2:(xs.any fun q=>q.epoch==d.epoch)=false):anyI (qbU (xs++[d])) 0 (xs++[d])=false:=by
 refine qgD fun i a ha=>?_
 by_cases hi:i<xs.length
 ·rw[zbg hi]at ha;have k:=qfH h ha;unfold qbU at k ⊢;rw[zbw (by omega)];exact k
 ·have hl:=lt_of ha;simp only[zab,zq,zh]at hl;have e:i=xs.length:=by omega
  subst e;rw[zas (zO _),Nat.sub_self]at ha;obtain rfl:d=a:=by simpa using ha
  unfold qbU;rw[zbw (zO _),zC,h1,h2];rfl
theorem qIX{g:Graph}{w:Worker}{r:Record}(h:qaK g w=true)(hr:qbB g r=false):qaK g (kept w r)=true:=by
 obtain⟨h1,h2⟩:=qbd.1 h;exact qbd.2 ⟨qm6.2 ⟨h1,hr⟩,h2⟩
theorem qj6{g:Graph}{w:Worker}{r:Record}{t:List Record}(h:qaK g w=true)(hs:w.staged=r::t):qaK g (qbf w t)=true∧qbB g r=false:=by
 obtain⟨h1,h2,h3⟩:=qbd.1 h;rw[hs,qdc]at h2;exact⟨qbd.2 ⟨h1,h2.2,h3⟩,h2.1⟩
theorem qIY{g:Graph}{w:Worker}{e:Int}(h:qaK g w=true):qaK g (qaB w e)=true:=by
 obtain⟨h1,h2,h3,h4,h5,h6,h7⟩:=qbd.1 h;exact qbd.2 ⟨h1,h2,h3,h4,h5,by simp only[qaB,zn];exact h6,h7⟩
theorem qr7{g:Graph}{w:Worker}{e:Int}{b:Bool}(h:qaK g w=true)(he:inR e 0 3=true)(hd:qaA w e=false):qaK g (told w e b)=true:=by
 obtain⟨h1,h2,h3,h4,h5,h6,h7,h8,h9,h10⟩:=qbd.1 h;exact qbd.2 ⟨h1,h2,h3,h4,h5,h6,h7,h8,h9,qIW h10 he hd⟩
theorem qIZ{g:Graph}{w:Worker}{n:News}(h:qaK g w=true)(he:inR n.epoch 0 3=true):qaK g (hears w n)=true:=by
 unfold hears;cases hd:qaA w n.epoch with
 | true=>exact h
 | false=>exact qr7 h he hd
theorem qr8{g:Graph}{w:Worker}{e d:Int}{k:Nat}(h:qaK g w=true)(hk:e.toNat=k)(h4:k<4):(incAt w.sums e d).length=4∧(incAt w.sums e d).any qcA=qcA (w.sums.getD e.toNat 0+d):=by
 obtain⟨h1,h2,h3,_,h5,h6,h7,h8,h9,h10⟩:=qbd.1 h;exact⟨by simp only[incAt,zn];exact h5,qm4 h9 (by omega)⟩
theorem qdE{g:Graph}{r:Record}(h:qbB g r=false):0≤r.stamp.epoch∧r.stamp.epoch≤3:=by
 simp only[qbB,qaC,qbb,inR,zy,zX,zj,zi]at h;omega
theorem qI0{g:Graph}{w:Worker}{e:Int}(h:qaK g w=true)(he:0≤e∧e≤3):qaK g (qbZ w e)=inR (w.sums.getD e.toNat 0+1) (-1000000) 1000000:=by
 obtain⟨k1,k2⟩:=qr8 (d:=1) h (e:=e) rfl (by omega);obtain⟨h1,h2,h3,h4,h5,h6,h7,h8,h9,h10⟩:=qbd.1 h;simp only[qaK,qbZ,h1,h2,h3,h4,k1,h6,h7,h8,h10,k2,qcA,zby,zbc,zcs,zbl,Bool.not_not]
theorem qI1{g:Graph}{w:Worker}{r:Record}(h:qaK g w=true)(hr:qbB g r=false):qaK g (received w r)=inR (w.sums.getD r.stamp.epoch.toNat 0+-1) (-1000000) 1000000:=by
 have he:=qdE hr;obtain⟨k1,k2⟩:=qr8 (d:=-1) h (e:=r.stamp.epoch) rfl (by omega);obtain⟨h1,h2,h3,h4,h5,h6,h7,h8,h9,h10⟩:=qbd.1 h;have hq:=qm6.2 ⟨h1,hr⟩;simp only[qaK,received,hq,h2,h3,h4,k1,zn,h6,h7,h8,h10,k2,qcA,zby,zbc,zcs,zbl,Bool.not_not]
theorem qI2{g:Graph}{w:Worker}(h:qaK g w=true):qaK g (qa0 g w).1=true:=by
 unfold qa0;split
 ·split
  ·rename_i r t h1 h2 h3;obtain⟨_,_,k3,k4,k5,k6,k7,k8,k9,k10⟩:=qbd.1 h;rw[h3]at k3 k8;exact qbd.2 ⟨qdc.2 ⟨(qdc.1 k3).1,rfl⟩,rfl,(qdc.1 k3).2,k4,k5,k6,k7,qIV k8,k9,k10⟩
  ·exact h
 ·exact h
theorem qI3:∀{xs:List Cell},qbI xs=true→∀i a b,xs[i]?=some a→xs[i+1]?=some b→qbg a b<0:=by
 intro xs h i a b h1 h2;simp only[qbI,zS,zP]at h;have hm:(a,b)∈xs.zip (xs.drop 1):=by
  refine qag (i:=i) ?_;rw[List.getElem?_zip_eq_some];exact⟨h1,by rw[zA,Nat.add_comm];exact h2⟩
 have:=h _ hm;simp only[qjZ,zi]at this;omega
def qeA(a:Cell):List Int:=[a.epoch,a.op,a.key,a.val]
theorem qr9(a b:Cell):qbg a b=cmpL (qeA a) (qeA b):=rfl
theorem qm7{a b c:Cell}(h1:qbg a b<0)(h2:qbg b c<0):qbg a c<0:=by
 rw[qr9] at*;exact qmG (qeA a) (qeA b) (qeA c) rfl rfl h1 h2
theorem qI4{a b:Cell}(h1:¬qbg a b<0)(h2:a≠b):qbg b a<0:=by
 rw[qr9] at*;refine Classical.byContradiction fun h=>h2 ?_
 have:=qmH (qeA a) (qeA b) rfl h1 h;simp only[qeA,zbr,and_true]at this;obtain⟨x1,x2,x3,x4⟩:=this;cases a;cases b;simp only[Cell.mk.injEq];exact⟨x2,x1,x3,x4⟩
theorem qsa:∀{xs:List Cell},qbI xs=true→xs.Pairwise fun a b=>qbg a b<0
 | [],_=>List.Pairwise.nil
 | [a],_=>List.pairwise_singleton _ a
 | a::b::xs,h=>by
  have ht:qbI (b::xs)=true:=by
   simp only[qbI,List.drop_succ_cons,zck,List.zip_cons_cons,zcg,Bool.not_or,zj]at h ⊢;exact h.2
  have hs:=qsa ht;have hab:=qI3 h 0 a b rfl rfl;refine List.Pairwise.cons (fun c hc=>?_) hs;rcases zL.1 hc with rfl | hc
  ·exact hab
  ·exact qm7 hab ((List.pairwise_cons.1 hs).1 c hc)
theorem qsb{xs:List Cell}(h:xs.Pairwise fun a b=>qbg a b<0):qbI xs=true:=by
 simp only[qbI,zS,zP];rintro⟨a,b⟩ hp;obtain⟨i,hi⟩:=List.getElem?_of_mem hp;obtain⟨h1,h2⟩:=qhQ hi;have hj:=lt_of h2;have:=List.pairwise_iff_getElem.1 h i (i+1) (by omega) hj (by omega);rw[zu (by omega)]at h1 h2;rw[zx h1,zx h2]at this;replace this:qbg a b<0:=this;show ¬decide (qbg a b≥0)=true;simp only[zi];omega
theorem qsc{xs:List Cell}(x:Cell)(h:xs.Pairwise fun a b=>qbg a b<0):(qbv xs x).Pairwise fun a b=>qbg a b<0:=by
 unfold qbv;split
 ·exact h
 ·rename_i hno;have hx:∀a∈xs,a≠x:=by
   intro a ha e;exact hno (zcj.2 ⟨a,ha,by simp[e]⟩)
  have hb:∀i a,xs[i]?=some a→i<qbY xs x→qbg a x<0:=by
   intro i a ha hi;unfold qbY at hi;cases hf:xs.findIdx? (fun a=>!decide (qbg a x<0)) with
   | none=>
    rw[zbs]at hf;simpa using hf a (qag ha)
   | some k=>
    rw[hf]at hi;simp only[zV]at hi;rw[zai]at hf;obtain⟨hk,_,h3⟩:=hf;have:=h3 i hi;rw[zu (by omega)]at ha;rw[zx ha]at this;simpa using this
  have ha:∀i a,xs[i]?=some a→qbY xs x≤i→qbg x a<0:=by
   intro i a ha hi;have hk:qbY xs x<xs.length:=by have:=lt_of ha;omega
   obtain⟨b,hb2⟩:=qal hk;have h0:¬qbg b x<0:=by
    unfold qbY at hb2 hk;cases hf:xs.findIdx? (fun a=>!decide (qbg a x<0)) with
    | none=>rw[hf]at hk;simp at hk
    | some k=>
     rw[hf]at hb2;simp only[zV]at hb2;rw[zai]at hf;obtain⟨hk2,h2,_⟩:=hf;rw[zu hk2]at hb2;rw[zx hb2]at h2;simpa using h2
   have hxb:=qI4 h0 (hx b (qag hb2));rcases Nat.lt_or_eq_of_le hi with hlt | heq
   ·have hj:=lt_of ha;have:=List.pairwise_iff_getElem.1 h (qbY xs x) i hk hj hlt;rw[zu hk]at hb2;rw[zu hj]at ha;rw[zx hb2,zx ha]at this;exact qm7 hxb this
   ·rw[heq,ha]at hb2;rw[zx hb2];exact hxb
  rw[List.pairwise_append];refine⟨h.sublist (List.take_sublist _ _),List.Pairwise.cons (fun c hc=>?_) (h.sublist (List.drop_sublist _ _)),fun a ha2 c hc=>?_⟩
  ·obtain⟨i,hi⟩:=List.getElem?_of_mem hc;rw[zA]at hi;exact ha _ _ hi (by omega)
  ·obtain⟨i,hi⟩:=List.getElem?_of_mem ha2;rw[zF]at hi;split at hi
   ·rename_i hlt;have h1:=hb i a hi hlt;rcases zL.1 hc with rfl | hc
    ·exact h1
    ·obtain⟨j,hj⟩:=List.getElem?_of_mem hc;rw[zA]at hj;exact qm7 h1 (ha _ _ hj (by omega))
   ·cases hi
theorem qI5(kind:Int){xs:List Cell}(x:Cell)(h:qbI xs=true):qbI (qaj kind xs x).1=true:=by
 have hs:=qsa h;have h1:=qsb (qsc x hs);have h2:=qsb (qsc x (hs.sublist (List.filter_sublist (p:=fun a=>!qau x a))));unfold qaj;split
 ·split
  ·exact h
  ·exact h1
 ·split
  ·unfold qaU;split
   ·exact h
   ·exact h2
  ·exact h
theorem qI6{g:Graph}{cs:List Cell}(r:Record)(h:qbI cs=true):qbI (qav g cs r).1=true:=by
 unfold qav;cases qaN g r.op with
 | none=>exact h
 | some x=>
  have hr:=qI5 x.kind ⟨r.op,r.stamp.epoch,r.key,r.val⟩ h;simp only[qas];split
  ·split
   ·exact h
   ·split
    ·exact hr
    ·split
     ·exact hr
     ·exact hr
  ·exact h
theorem qI7{x:Node}{k v:Int}(hx:qab x=true)(hi:qaJ k v=true):qaJ (qak x k v).1 (qak x k v).2.1=true:=by
 have hx':=hx;simp only[qab,zj]at hx;have ha:=hx.1.1.1.1;have hi':=hi;simp only[qaJ,inR,zj,zi]at hi;unfold qak;rw[hx',hi',Bool.and_self,zp rfl];unfold abOk at ha;split
 ·rename_i h2;rw[zp h2]at ha;simp only[inR,zj,zi]at ha;have hl:0≤less (v+x.a) 999∧less (v+x.a) 999≤999:=by unfold less;split<;>omega
  simp only[qaJ,inR,zj,zi];omega
 ·rename_i h2;rw[zo h2]at ha;split
  ·rename_i h4;rw[zo (by omega),zp h4]at ha;simp only[inR,zj,zi]at ha;simp only[qaJ,inR,zj,zi];rw[Int.tmod_eq_emod_of_nonneg (by omega)];omega
  ·split
   ·exact hi'
   ·exact hi'
theorem qI8{g:Graph}(h:qax g=true){op:Int}{x:Node}(hn:qaN g op=some x):qbw g op.toNat x=false:=by
 simp only[qax,zj,zS]at h;unfold qaN at hn;split at hn
 ·exact qfH h.2 hn
 ·cases hn
theorem qsd{g:Graph}(h:qax g=true){op:Int}{x:Node}(hn:qaN g op=some x){s:Stamp}{k v:Int}(hs:qbb s=true)(hi:qaJ k v=true):qaW g (sends x s k v)=true:=by
 have hb:=qI8 h hn;have hx:=qjH h hn;simp only[qab,zj]at hx;simp only[qbw,zy]at hb;have he:=hb.2;rw[zP]at he;simp only[qaW,sends,List.any_map,zS,zP];intro o ho;have h1:=qmB hx.2 ho;have h2:=he o ho;simp only[qa2,zbi,not_or,zi]at h2;simp only[Function.comp,qbB,qaC,h1,hs,hi,Bool.and_self,zZ,zal,zi];omega
theorem qI9{g:Graph}{cs:List Cell}{r:Record}:qaW g (qav g cs r).2.1=true:=by
 unfold qav;cases hn:qaN g r.op with
 | none=>rfl
 | some x=>
  simp only[qas];split
  ·rename_i hg;rw[zj]at hg;obtain⟨hg,hr⟩:=hg;have hr':=hr;simp only[qaC,zj]at hr;have hc:=qI7 (qjH hg hn) hr.2;split
   ·rfl
   ·split
    ·rfl
    ·split
     ·cases ht:(qaG r.stamp).2 with
      | false=>rfl
      | true=>
       refine qsd hg hn ?_ hc;unfold qaG at ht ⊢;split
       ·rename_i h1;simp only[zj,qbb,inR,zi]at h1 ⊢;omega
       ·rename_i h1;rw[zo h1]at ht;cases ht
     ·exact qsd hg hn hr.1.2 hc
  ·rfl
theorem qJa{g:Graph}{w:Worker}(h:qaK g w=true):qaK g (qaZ g w).1=true:=by
 unfold qaZ;split
 ·split
  ·rename_i r q h1 h2;obtain⟨k1,k2,k3,k4,k5,k6,k7,k8,k9,k10⟩:=qbd.1 h;rw[h2,qdc]at k1;refine qbd.2 ⟨k1.2,qI9,k3,qI6 r k4,k5,k6,?_,k8,k9,k10⟩;split
   ·rw[zn];exact k7
   ·exact k7
  ·exact h
 ·exact h
end Go.Proofs.YtdkobdhckkjmeaaGreat
namespace Go.Proofs.YtdkobdhckkjmeaaGreat
open Go.Sx Go.RowKit
end Go.Proofs.YtdkobdhckkjmeaaGreat
namespace Go.Proofs.YtdkobdhckkjmeaaGreat
open Go.Sx Go.RowKit
def resultOf(g:Graph)(e:Int)(xs:List Record):List Cell:=outsOnly g (qEu g e xs)
end Go.Proofs.YtdkobdhckkjmeaaGreat
namespace Go.Proofs.YtdkobdhckkjmeaaGreat
open Go.Sx Go.RowKit
def succs(g:Graph)(x:Cell):List Cell:=match qaN g x.op with
 | none=>[]
 | some n=>if (qak n x.key x.val).2.2=true then sendC n x (qak n x.key x.val).1 (qak n x.key x.val).2.1 else []
def Dom(H:Cell→Prop)(x:Cell):Prop:=∃a,H a∧qau x a=true∧a.val≤x.val
def Fits(g:Graph)(x:Cell):Prop:=(∃n,qaN g x.op=some n)∧qaJ x.key x.val=true∧0≤x.epoch∧x.epoch≤3
theorem slot_refl(x:Cell):qau x x=true:=qft.2 ⟨rfl,rfl,rfl⟩
theorem slot_symm{x y:Cell}(h:qau x y=true):qau y x=true:=by
 obtain⟨h1,h2,h3⟩:=qft.1 h;exact qft.2 ⟨h1.symm,h2.symm,h3.symm⟩
theorem slot_trans{x y z:Cell}(h:qau x y=true)(k:qau y z=true):qau x z=true:=by
 obtain⟨h1,h2,h3⟩:=qft.1 h;obtain⟨k1,k2,k3⟩:=qft.1 k;exact qft.2 ⟨k1.trans h1,k2.trans h2,k3.trans h3⟩
theorem Dom.self{H:Cell→Prop}{x:Cell}(h:H x):Dom H x:=⟨x,h,slot_refl x,Int.le_refl _⟩
theorem Dom.mono{H K:Cell→Prop}{x:Cell}(h:Dom H x)(hk:∀a,H a→Dom K a):Dom K x:=by
 obtain⟨a,ha,h1,h2⟩:=h;obtain⟨b,hb,k1,k2⟩:=hk a ha;exact⟨b,hb,slot_trans h1 k1,zaq k2 h2⟩
theorem Dom.less{H:Cell→Prop}{x y:Cell}(h:Dom H x)(hs:qau y x=true)(hv:x.val≤y.val):Dom H y:=by
 obtain⟨a,ha,h1,h2⟩:=h;exact⟨a,ha,slot_trans hs h1,zaq h2 hv⟩
theorem changed_item{n:Node}{k v:Int}(hn:qab n=true)(hi:qaJ k v=true):qaJ (qak n k v).1 (qak n k v).2.1=true:=by
 have hab:abOk n=true:=by
  unfold qab at hn;simp only[zj]at hn;exact hn.1.1.1.1
 unfold qak;rw[hn,hi];simp only[Bool.and_self,zbb];simp only[qaJ,inR,zj,zi]at hi ⊢;split
 ·rename_i h2;unfold abOk at hab;rw[zp h2]at hab;simp only[inR,zj,zi]at hab;dsimp only[less];split<;>omega
 ·split
  ·rename_i h2 h4;unfold abOk at hab;rw[zo h2,zo (by omega),zp h4]at hab;simp only[inR,zj,zi]at hab;dsimp only;rw[Int.tmod_eq_emod_of_nonneg (by omega)];omega
  ·split
   ·exact hi
   ·exact hi
theorem succs_less{g:Graph}{x a:Cell}(hg:qax g=true)(hx:qaJ x.key x.val=true)(ha:qaJ a.key a.val=true)(hs:qau x a=true)(hv:a.val≤x.val):∀y∈succs g x,∃z∈succs g a,qau y z=true∧z.val≤y.val:=by
 obtain⟨h1,h2,h3⟩:=qft.1 hs;intro y hy;unfold succs at hy ⊢;rw[h1];cases hn:qaN g x.op with
 | none=>rw[hn]at hy;cases hy
 | some n=>
  rw[hn]at hy;dsimp only at hy ⊢;have nk:=qro hg hn;rw[h3]at ha ⊢;have key:(qak n x.key a.val).1=(qak n x.key x.val).1∧(qak n x.key a.val).2.1≤(qak n x.key x.val).2.1∧(qak n x.key a.val).2.2=(qak n x.key x.val).2.2:=by
   unfold qak;rw[nk,hx,ha];simp only[Bool.and_self,zbb];split
   ·refine⟨rfl,?_,rfl⟩;dsimp only[less];split<;>split<;>omega
   ·split
    ·exact⟨rfl,hv,rfl⟩
    ·split
     ·exact⟨rfl,hv,rfl⟩
     ·exact⟨rfl,hv,rfl⟩
  obtain⟨k1,k2,k3⟩:=key;rw[k1,k3];split at hy
  ·rename_i hgo;rw[zp hgo];obtain⟨o,ho,rfl⟩:=zbm.1 hy;refine⟨⟨o,a.epoch,(qak n x.key x.val).1,(qak n x.key a.val).2.1⟩,zbm.2 ⟨o,ho,rfl⟩,qft.2 ⟨rfl,h2,rfl⟩,k2⟩
  ·cases hy
theorem node_outs_in{g:Graph}(hg:qax g=true){op:Int}{n:Node}(hn:qaN g op=some n):∀o∈n.outs,∃m,qaN g o=some m:=by
 intro o ho;have nk:=qro hg hn;have h0:0≤o:=by
  unfold qab at nk;simp only[zj]at nk;have:=qmB nk.2 ho;simp only[inR,zi]at this;exact this.1
 have hb:=hg;simp only[qax,zj,zS]at hb;have:=qgg hb.2 op.toNat n (qEz hn).2;rw[zv]at this;simp only[qbw,zy,zP]at this;have he:=this.2 o ho;unfold qa2 at he;simp only[zbi,zi,not_or,Int.not_le]at he;unfold qaN;rw[zp h0];exact qal (by omega)
theorem succs_fit{g:Graph}{x:Cell}(hg:qax g=true)(hx:Fits g x):∀y∈succs g x,Fits g y:=by
 intro y hy;obtain⟨⟨n,hn⟩,hi,he⟩:=hx;unfold succs at hy;rw[hn]at hy;dsimp only at hy;split at hy
 ·obtain⟨o,ho,rfl⟩:=zbm.1 hy;exact⟨node_outs_in hg hn o ho,changed_item (qro hg hn) hi,he⟩
 ·cases hy
structure FixInv (g:Graph) (ins best l:List Cell):Prop where
 ins:∀x∈ins,Dom (fun a=>a∈best∨a∈l) x
 closed:∀x∈best,∀y∈succs g x,Dom (fun a=>a∈best∨a∈l) y
 fit:∀x,x∈best∨x∈l→Fits g x
theorem better_mem{xs:List Cell}{x:Cell}(h:(qaU xs x).2=true)(z:Cell):z∈(qaU xs x).1↔z=x∨(z∈xs∧qau x z=false):=by
 have:=qjJ (k:=8) (xs:=xs) (u:=x) (z:=z) (.inr (.inr rfl)) (by unfold qaj;rw[zo (by decide),zp (.inr rfl)];exact h);unfold qaj at this;rw[zo (by decide),zp (.inr rfl)]at this;rw[this];exact⟨fun q=>q.imp id fun q=>⟨q.1,q.2 (by decide)⟩,fun q=>q.imp id fun q=>⟨q.1,fun _=>q.2⟩⟩
theorem improve_view{g:Graph}(hg:qax g=true){best:List Cell}{x:Cell}(hx:Fits g x):
  ((qaU best x).2=false∧qdw g best x=(best,[]))∨((qaU best x).2=true∧qdw g best x=((qaU best x).1,succs g x)):=by
 obtain⟨⟨n,hn⟩,hi,he⟩:=hx;have hr:inR x.epoch 0 3=true:=by simp only[inR,zi];exact he
 unfold qdw succs;rw[hn];dsimp only;rw[hg,hr,hi];simp only[Bool.and_self,zbb];cases hb:(qaU best x).2 with
 | false=>exact .inl ⟨rfl,by rw[qrl hb];simp⟩
 | true=>exact .inr ⟨rfl,by simp⟩
theorem FixInv.step{g:Graph}(hg:qax g=true){ins best l:List Cell}{x:Cell}(h:FixInv g ins best (x::l)):FixInv g ins (qdw g best x).1 (l++(qdw g best x).2):=by
 have hx:=h.fit x (.inr (zm ..));rcases improve_view hg (best:=best) hx with⟨hb,e⟩ | ⟨hb,e⟩
 ·rw[e];obtain⟨a,ha,k1,k2⟩:=(qEv best x).1 hb;have up:∀z,(z∈best∨z∈x::l)→Dom (fun a=>a∈best∨a∈l++[]) z:=fun z hz=>by
   rcases hz with hz | hz
   ·exact .self (.inl hz)
   ·rcases zL.1 hz with rfl | hz
    ·exact⟨a,.inl ha,k1,k2⟩
    ·exact .self (.inr (by simpa using hz))
  exact⟨fun z hz=>(h.ins z hz).mono up,fun z hz y hy=>(h.closed z hz y hy).mono up,fun z hz=>h.fit z (hz.imp id fun q=>zg _ (by simpa using q))⟩
 ·rw[e];have mem:=better_mem hb;have nb:∀a∈best,qau x a=true→x.val≤a.val:=fun a ha hs=>by
   refine Classical.byContradiction fun hv=>?_
   have:=(qEv best x).2 ⟨a,ha,hs,by omega⟩;rw[hb]at this;cases this
  have up:∀z,(z∈best∨z∈x::l)→Dom (fun a=>a∈(qaU best x).1∨a∈l++succs g x) z:=fun z hz=>by
   rcases hz with hz | hz
   ·by_cases hs:qau x z=true
    ·exact⟨x,.inl ((mem x).2 (.inl rfl)),slot_symm hs,nb z hz hs⟩
    ·exact .self (.inl ((mem z).2 (.inr ⟨hz,by simpa using hs⟩)))
   ·rcases zL.1 hz with rfl | hz
    ·exact .self (.inl ((mem z).2 (.inl rfl)))
    ·exact .self (.inr (zI _ hz))
  refine⟨fun z hz=>(h.ins z hz).mono up,fun z hz y hy=>?_,fun z hz=>?_⟩
  ·rcases (mem z).1 hz with rfl | ⟨hz,_⟩
   ·exact .self (.inr (zJ _ hy))
   ·exact (h.closed z hz y hy).mono up
  ·rcases hz with hz | hz
   ·rcases (mem z).1 hz with rfl | ⟨hz,_⟩
    ·exact hx
    ·exact h.fit z (.inl hz)
   ·rcases zaz.1 hz with hz | hz
    ·exact h.fit z (.inr (zg _ hz))
    ·exact succs_fit hg hx z hz
theorem fixGo_inv{g:Graph}(hg:qax g=true){e:Int}{ins:List Cell}:∀(k:Nat) (best l:List Cell),BestOk e best→(∀a∈l,a.epoch=e)→toDo best l≤k→FixInv g ins best l→FixInv g ins (fixGo g k best l) []
 | 0,best,l,_,_,hk,h=>by
  have:l=[]:=by
   unfold toDo at hk;exact List.length_eq_zero_iff.1 (by omega)
  subst this;exact h
 | k+1,best,[],_,_,_,h=>h
 | k+1,best,x::l,hb,hl,hk,h=>by
  have hxe:=hl x (zm ..);obtain⟨h1,h2,_,_⟩:=qEt (g:=g) hb hxe;have ht:=qQW (g:=g) (l:=l) hb hxe;refine fixGo_inv hg k _ _ h1 (fun a ha=>?_) (by omega) (h.step hg);rcases zaz.1 ha with ha | ha
  ·exact hl a (zg _ ha)
  ·exact h2 a ha
theorem inputCell_fit{g:Graph}(hg:qax g=true){e:Int}(he:0≤e∧e≤3){xs:List Record}:∀x∈qmF e xs,Fits g x:=by
 intro x hx;simp only[qmF,zbm,List.mem_filter]at hx;obtain⟨r,⟨_,hr⟩,rfl⟩:=hx;have hl:1≤(g.nodes.length:Int):=by
  simp only[qax,zj,inR,zi]at hg;omega
 refine⟨?_,qhE hr,he⟩;change ∃n,qaN g 0=some n;unfold qaN;rw[zp (by decide)];exact qal (by change (0:Int).toNat<_;omega)
theorem fixpoint_inv{g:Graph}(hg:qax g=true){e:Int}(he:0≤e∧e≤3)(xs:List Record):FixInv g (qmF e xs) (qEu g e xs) []:=
 fixGo_inv hg _ [] (qmF e xs) (qQV e) qQX (Nat.le_of_eq (qQY _)) ⟨fun x hx=>.self (.inr hx),fun x hx=>(by cases hx),fun x hx=>inputCell_fit hg he x (hx.resolve_left (by simp))⟩
theorem fixGo_least{g:Graph}(hg:qax g=true){H:Cell→Prop}(hf:∀x,H x→qaJ x.key x.val=true)(hc:∀x,H x→∀y∈succs g x,Dom H y):∀(k:Nat) (best l:List Cell),(∀x,x∈best∨x∈l→Fits g x∧Dom H x)→∀x∈fixGo g k best l,Dom H x
 | 0,best,l,h,x,hx=>(h x (.inl hx)).2
 | k+1,best,[],h,x,hx=>(h x (.inl hx)).2
 | k+1,best,a::l,h,x,hx=>by
  have ha:=h a (.inr (zm ..));refine fixGo_least hg hf hc k (qdw g best a).1 (l++(qdw g best a).2) (fun z hz=>?_) x hx;rcases improve_view hg (best:=best) ha.1 with⟨_,e⟩ | ⟨hb,e⟩
  ·rw[e]at hz;exact h z (hz.imp id fun q=>zg _ (by simpa using q))
  ·rw[e]at hz;rcases hz with hz | hz
   ·rcases (better_mem hb z).1 hz with rfl | ⟨hz,_⟩
    ·exact ha
    ·exact h z (.inl hz)
   ·rcases zaz.1 hz with hz | hz
    ·exact h z (.inr (zg _ hz))
    ·refine⟨succs_fit hg ha.1 z hz,?_⟩;obtain⟨b,hb2,k1,k2⟩:=ha.2;obtain⟨w,hw,w1,w2⟩:=succs_less hg ha.1.2.1 (hf b hb2) k1 k2 z hz;exact (hc b hb2 w hw).less w1 w2
theorem fixpoint_least{g:Graph}(hg:qax g=true){e:Int}(he:0≤e∧e≤3){xs:List Record}{H:Cell→Prop}(hf:∀x,H x→qaJ x.key x.val=true)(hc:∀x,H x→∀y∈succs g x,Dom H y)(hi:∀x∈qmF e xs,Dom H x):∀x∈qEu g e xs,Dom H x:=
 fixGo_least hg hf hc _ [] _ fun x hx=>⟨inputCell_fit hg he x (hx.resolve_left (by simp)),hi x (hx.resolve_left (by simp))⟩
theorem better_sorted{xs:List Cell}(x:Cell)(h:xs.Pairwise fun a b=>qbg a b<0):(qaU xs x).1.Pairwise fun a b=>qbg a b<0:=by
 unfold qaU;split
 ·exact h
 ·exact qsc x (h.filter _)
theorem fixGo_sorted{g:Graph}:∀(k:Nat) (best l:List Cell),(best.Pairwise fun a b=>qbg a b<0)→(fixGo g k best l).Pairwise fun a b=>qbg a b<0
 | 0,_,_,h=>h
 | _+1,_,[],h=>h
 | k+1,best,x::l,h=>by
  refine fixGo_sorted k _ _ ?_;unfold qdw;split
  ·exact h
  ·split
   ·exact better_sorted x h
   ·exact h
theorem fixpoint_sorted(g:Graph)(e:Int)(xs:List Record):(qEu g e xs).Pairwise fun a b=>qbg a b<0:=fixGo_sorted _ _ _ List.Pairwise.nil
theorem best_one{e:Int}:∀{xs:List Cell},BestOk e xs→∀{a b:Cell},a∈xs→b∈xs→qau a b=true→a=b
 | [],_,_,_,ha,_,_=>by cases ha
 | x::xs,h,a,b,ha,hb,hs=>by
  have hn:=h.apart;rw[zav,List.nodup_cons]at hn;have ht:BestOk e xs:=⟨fun b hb=>h.bound b (zg _ hb),hn.2⟩
  have sl:=(qmE (h.bound b hb) (h.bound a ha)).1 hs;rcases zL.1 ha with rfl | ha'
  ·rcases zL.1 hb with rfl | hb'
   ·rfl
   ·exact absurd (zbm.2 ⟨b,hb',sl⟩) hn.1
  ·rcases zL.1 hb with rfl | hb'
   ·exact absurd (zbm.2 ⟨a,ha',sl.symm⟩) hn.1
   ·exact best_one ht ha' hb' hs
end Go.Proofs.YtdkobdhckkjmeaaGreat
