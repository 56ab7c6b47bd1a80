/- What every pick keeps: owners, bounds of sums, and the invariant of the token that finds an epoch's end. -/
import Derived.Test.YtdkobdhckkjmeaaGreatP42
import Derived.Test.YtdkobdhckkjmeaaGreatP21
import Derived.Test.YtdkobdhckkjmeaaGreatP41
set_option linter.unusedVariables false
set_option linter.unusedSimpArgs false
namespace Go.Proofs.YtdkobdhckkjmeaaGreat
open Go.Sx Go.RowKit
def sE(e:Int)(x:Worker):Int:=x.sums.getD e.toNat 0
def bE(e:Int)(x:Worker):Bool:=x.black.getD e.toNat false
def cE(e:Int)(x:Worker):Bool:=x.caps.getD e.toNat false
def preS(e:Int)(c:Cluster)(k:Nat):Int:=((c.workers.take k).map (sE e)).sum
def infl(e:Int)(c:Cluster):Nat:=sumS (qbp e) c.links
def quiet(e:Int)(c:Cluster):Prop:=(∀x∈c.workers,qbF x e=true)∧infl e c=0
def Good(e:Int)(c:Cluster)(t:Token):Prop:=
 ((∀(i:Nat) x,t.place<i→c.workers[i]?=some x→qbF x e=true∧(cE e x=true→t.capped=true))∧preS e c (t.place+1).toNat+t.sum=infl e c)∨
 0<preS e c (t.place+1).toNat+t.sum∨(∃(i:Nat) (x:Worker),(i:Int)≤t.place∧c.workers[i]?=some x∧bE e x=true)∨t.black=true
structure Inv (e:Int) (c:Cluster):Prop where
 total:preS e c c.workers.length=infl e c
 token:∀t,tAt c e=some t→t.going=true→Good e c t
 tells:(toldW c e||toldN c e)=true→quiet e c
theorem qgI{α:Type}(f:α→Int){y:α}(x:α):∀{xs:List α} {i k:Nat},xs[i]?=some y→(((xs.set i x).take k).map f).sum=((xs.take k).map f).sum+(if i<k then f x-f y else 0)
 | [],_,_,h=>by simp at h
 | a::xs,0,0,h=>by simp
 | a::xs,0,k+1,h=>by
  obtain rfl:a=y:=by simpa using h
  simp only[List.set_cons_zero,List.take_succ_cons,zav,zcw];rw[zp (by omega)];omega
 | a::xs,i+1,0,h=>by simp
 | a::xs,i+1,k+1,h=>by
  have ih:=qgI f x (xs:=xs) (i:=i) (k:=k) (by simpa using h);simp only[List.set_cons_succ,List.take_succ_cons,zav,zcw,ih];by_cases hk:i<k
  ·rw[zp hk,zp (by omega)];omega
  ·rw[zo hk,zo (by omega)];omega
theorem qeD{α:Type}{xs:List α}{i j:Nat}{y z:α}(h:(xs.set i y)[j]?=some z):(j=i∧z=y)∨(j≠i∧xs[j]?=some z):=by
 rw[zad]at h;split at h
 ·rename_i hij;split at h
  ·exact .inl ⟨hij.symm,(zx h).symm⟩
  ·cases h
 ·exact .inr ⟨fun q=>‹¬i=j› q.symm,h⟩
theorem qcM{α:Type}{xs:List α}{i:Nat}{x y:α}(h:xs[i]?=some x):(xs.set i y)[i]?=some y:=by
 rw[zad,zp rfl,zp (lt_of h)]
theorem qh2{α:Type}{xs:List α}{i j:Nat}{y z:α}(h:xs[j]?=some z)(hj:j≠i):(xs.set i y)[j]?=some z:=by
 rw[zad,zo (fun q=>hj q.symm),h]
theorem qh3{α:Type}{xs:List α}{i:Nat}{x:α}(h:xs[i]?=some x):xs.set i x=xs:=by
 have hl:=lt_of h;rw[zu hl]at h;rw[←zx h];exact List.set_getElem_self hl
theorem Inv.worker{e i:Int}{c d:Cluster}{x y:Worker}(h:Inv e c)(hx:wAt c i=some x)(hw:d.workers=c.workers.set i.toNat y)(ht:tAt d e=tAt c e)
  (htold:(toldW d e||toldN d e)=true→(toldW c e||toldN c e)=true)
  (hc:(sE e y=sE e x∧(bE e x=true→bE e y=true)∧infl e d=infl e c∧(qbF x e=true→qbF y e=true∧cE e y=cE e x))∨
   (qbF x e=false∧sE e y=sE e x+1∧(bE e x=true→bE e y=true)∧infl e d=infl e c+1)∨
   (infl e c=infl e d+1∧sE e y=sE e x-1∧bE e y=true)):Inv e d:=by
 obtain⟨i0,i1,i2⟩:=qaD hx;have hlen:d.workers.length=c.workers.length:=by rw[hw,zn]
 have hpre:∀k,preS e d k=preS e c k+(if i.toNat<k then sE e y-sE e x else 0):=fun k=>by
  unfold preS;rw[hw];exact qgI (sE e) y i2
 have hmem:x∈c.workers:=qag i2;refine⟨?_,fun t hT hg=>?_,fun hT=>?_⟩
 ·rw[hpre,hlen,zp i1,h.total];rcases hc with⟨h1,_,h3,_⟩ | ⟨_,h2,_,h4⟩ | ⟨h1,h2,_⟩<;>omega
 ·have hG:=h.token t (ht▸hT) hg;unfold Good at hG ⊢;rw[hpre];have hP3:(bE e x=true→bE e y=true)→(∃(j:Nat) (z:Worker),(j:Int)≤t.place∧c.workers[j]?=some z∧bE e z=true)→∃(j:Nat) (z:Worker),(j:Int)≤t.place∧d.workers[j]?=some z∧bE e z=true:=by
   rintro hb ⟨j,z,g1,g2,g3⟩;by_cases hj:j=i.toNat
   ·subst hj;rw[i2]at g2;cases g2;exact⟨_,y,g1,by rw[hw];exact qcM i2,hb g3⟩
   ·exact⟨j,z,g1,by rw[hw];exact qh2 g2 hj,g3⟩
  rcases hc with⟨h1,h2,h3,h4⟩ | ⟨h1,h2,h3,h4⟩ | ⟨h1,h2,h3⟩
  ·rcases hG with⟨ga,gb⟩ | g | g | g
   ·refine .inl ⟨fun j z hj hz=>?_,?_⟩
    ·rw[hw]at hz;rcases qeD hz with⟨rfl,rfl⟩ | ⟨_,hz⟩
     ·have:=ga _ x hj i2;obtain⟨k1,k2⟩:=h4 this.1;exact⟨k1,fun hcap=>this.2 (k2▸hcap)⟩
     ·exact ga j z hj hz
    ·split<;>omega
   ·exact .inr (.inl (by split<;>omega))
   ·exact .inr (.inr (.inl (hP3 h2 g)))
   ·exact .inr (.inr (.inr g))
  ·rcases hG with⟨ga,gb⟩ | g | g | g
   ·have hle:¬t.place<i.toNat:=fun hlt=>by
     have:=(ga _ x hlt i2).1;rw[h1]at this;cases this
    refine .inl ⟨fun j z hj hz=>?_,?_⟩
    ·rw[hw]at hz;rcases qeD hz with⟨rfl,rfl⟩ | ⟨_,hz⟩
     ·exact absurd hj hle
     ·exact ga j z hj hz
    ·rw[zp (by omega)];omega
   ·exact .inr (.inl (by split<;>omega))
   ·exact .inr (.inr (.inl (hP3 h3 g)))
   ·exact .inr (.inr (.inr g))
  ·by_cases hle:(i.toNat:Int)≤t.place
   ·exact .inr (.inr (.inl ⟨i.toNat,y,hle,by rw[hw];exact qcM i2,h3⟩))
   rw[zo (by omega)];rcases hG with⟨_,gb⟩ | g | ⟨j,z,g1,g2,g3⟩ | g
   ·exact .inr (.inl (by omega))
   ·exact .inr (.inl (by omega))
   ·exact .inr (.inr (.inl ⟨j,z,g1,by rw[hw];exact qh2 g2 (by omega),g3⟩))
   ·exact .inr (.inr (.inr g))
 ·obtain⟨q1,q2⟩:=h.tells (htold hT);have hp:=q1 x hmem;rcases hc with⟨_,_,h3,h4⟩ | ⟨h1,_⟩ | ⟨h1,_⟩
  ·refine⟨fun z hz=>?_,by omega⟩;rw[hw]at hz;rcases zbf hz with hz | rfl
   ·exact q1 z hz
   ·exact (h4 hp).1
  ·rw[hp]at h1;cases h1
  ·omega
theorem qco{x:Worker}{e:Int}:qbF x e=true↔(∀r∈x.inputs,e<r.stamp.epoch)∧(∀r∈x.queue,r.stamp.epoch≠e)∧∀r∈x.staged,r.stamp.epoch≠e:=by
 simp only[qbF,qfG,qr4,qa5,zj,zS,zP,zi,zE];rw[show ∀a b:Nat,a+b=0↔a=0∧b=0 from fun a b=>by omega,List.length_eq_zero_iff,List.length_eq_zero_iff,List.filter_eq_nil_iff,List.filter_eq_nil_iff];simp only[zE,Int.not_le]
theorem qJF(g:Graph)(cs:List Cell)(r:Record):∀q∈(qav g cs r).2.1,q.stamp.epoch=r.stamp.epoch:=by
 intro q hq;unfold qav at hq;split at hq
 ·rename_i n _;unfold qas at hq;have hs:∀s:Stamp,s.epoch=r.stamp.epoch→∀k v,q∈sends n s k v→q.stamp.epoch=r.stamp.epoch:=by
   intro s hse k v hm;simp only[sends,zbm]at hm;obtain⟨o,_,rfl⟩:=hm;exact hse
  have hn:(qaG r.stamp).1.epoch=r.stamp.epoch:=by
   unfold qaG;split<;>rfl
  grind
 ·cases hq
theorem qfN{α:Type}{xs:List α}{i j:Nat}{a d:α}(h:i≠j):(xs.set i a).getD j d=xs.getD j d:=by
 simp only[zN,zad,zo h]
theorem qkd{α:Type}{xs:List α}{i:Nat}{a d:α}(h:i<xs.length):(xs.set i a).getD i d=a:=by
 simp[zN,h]
theorem qnc{c:Cluster}{i e:Int}{l m:Link}(h:lAt c i=some l):infl e (setL c i m)+qbp e l=infl e c+qbp e m:=by
 unfold infl;exact qkc m (qbl h).2.2
theorem qJG(e cap:Int)(q:List Record)(r:Record)(a b s g:Int)(l:Link)(hl:l.queue=q):qbp e ⟨cap,q++[r],a,b,s,g⟩=qbp e l+(if r.stamp.epoch=e then 1 else 0):=by
 simp only[qbp,qa5,List.filter_append,zab,hl,List.filter_cons,List.filter_nil,zE];split<;>rfl
theorem qJH(e:Int)(r:Record)(q:List Record)(l:Link)(hl:l.queue=r::q)(cap a b s g:Int):qbp e l=qbp e ⟨cap,q,a,b,s,g⟩+(if r.stamp.epoch=e then 1 else 0):=by
 simp only[qbp,qa5,hl,List.filter_cons,zE];split<;>simp
theorem qdd{c d:Cluster}{i e:Int}{x y:Worker}(hx:wAt c i=some x)(hd:d.workers=c.workers.set i.toNat y)(h:qaA y e=true→qaA x e=true∨toldN c e=true)(hn:toldN d e=true→toldN c e=true):
  (toldW d e||toldN d e)=true→(toldW c e||toldN c e)=true:=by
 simp only[zbi];rintro (hw | hw)
 ·unfold toldW at hw ⊢;rw[hd,zcj]at hw;obtain⟨z,hz,hdz⟩:=hw;rcases zbf hz with hz | rfl
  ·exact .inl (zcj.2 ⟨z,hz,hdz⟩)
  ·rcases h hdz with h1 | h1
   ·exact .inl (zcj.2 ⟨x,qag (qaD hx).2.2,h1⟩)
   ·exact .inr h1
 ·exact .inr (hn hw)
theorem qfO{a b:Int}(ha:0≤a)(hb:0≤b)(h:a≠b):a.toNat≠b.toNat:=by omega
theorem qsA{e f d:Int}(he:0≤e∧e≤3)(hf:0≤f∧f≤3){xs:List Int}(hl:xs.length=4):(incAt xs f d).getD e.toNat 0=xs.getD e.toNat 0+(if f=e then d else 0):=by
 unfold incAt;by_cases h:f=e
 ·subst h;rw[qkd (by omega),zp rfl]
 ·rw[qfN (qfO hf.1 he.1 h),zo h];omega
theorem qh4{g:Graph}{w:Worker}(h:qaK g w=true):w.sums.length=4∧w.black.length=4∧w.caps.length=4:=by
 obtain⟨_,_,_,_,h5,h6,h7,_⟩:=qbd.1 h;exact⟨h5,h6,h7⟩
theorem qnd{g:Graph}{xs:List Record}(h:qaW g xs=true){r:Record}(hr:r∈xs):0≤r.stamp.epoch∧r.stamp.epoch≤3:=by
 simp only[qaW,zS,zP]at h;exact qdE (g:=g) (by simpa using h r hr)
theorem qeE{x:Worker}{e f:Int}{b:Bool}:qaA (told x f b) e=(qaA x e||f==e):=by
 simp[qaA,told]
theorem qke{x:Worker}{n:News}{e:Int}:qaA (hears x n) e=(qaA x e||n.epoch==e):=by
 unfold hears;split
 ·rename_i h;by_cases he:n.epoch=e
  ·subst he;rw[h];rfl
  ·have:(n.epoch==e)=false:=by simpa using he
   rw[this,Bool.or_false]
 ·exact qeE
theorem qJI{x:Worker}{n:News}{e:Int}:qbF (hears x n) e=qbF x e:=by
 unfold hears;split<;>rfl
theorem qkf{x:Worker}{n:News}{e:Int}:sE e (hears x n)=sE e x∧bE e (hears x n)=bE e x∧cE e (hears x n)=cE e x:=by
 unfold hears;split<;>exact⟨rfl,rfl,rfl⟩
theorem qkg{e:Int}{c:Cluster}{k:Nat}{x:Worker}(h:c.workers[k]?=some x):preS e c (k+1)=preS e c k+sE e x:=by
 simp[preS,zbe,h]
theorem qeF{c:Cluster}{e f:Int}{t:Token}(he:0≤e)(hf:0≤f)(h:f≠e):(if 0≤e then (c.tokens.set f.toNat t)[e.toNat]? else none)=tAt c e:=by
 unfold tAt;rw[zad,zo (qfO hf he h)]
theorem qsB{c:Cluster}{e f:Int}{n:Nat}{b:Bool}(h:f≠e):((c.news++qaR n f b).any fun x=>x.epoch==e)=toldN c e:=by
 rw[List.any_append];have:((qaR n f b).any fun x=>x.epoch==e)=false:=by
  rw[zP];intro x hx;simp only[qaR,zbm]at hx;obtain⟨_,_,rfl⟩:=hx;simpa using h
 rw[this,Bool.or_false];rfl
theorem Inv.tokenOther{e f:Int}{c:Cluster}{t:Token}{x:Worker}(h:Inv e c)(he:0≤e)(hf:0≤f)(hne:f≠e)(hx:wAt c t.place=some x):Inv e (tokenAt c f t x).1:=by
 have white:bE e (qaB x f)=bE e x:=by
  unfold bE qaB;exact qfN (qfO hf he hne)
 rcases qcX c f t x with⟨_,h2⟩ | ⟨_,_,h1⟩
 ·rw[h2];exact h
 rcases h1 with⟨_,h2⟩ | ⟨_,_,h2⟩ | ⟨_,h0,_,h2⟩ | ⟨_,_,_,h2⟩
 ·rw[h2];exact h.worker hx rfl (qeF he hf hne) (qdd hx rfl (fun k=>.inl k) id) (.inl ⟨rfl,fun k=>white.trans k,rfl,fun k=>⟨k,rfl⟩⟩)
 ·rw[h2];exact h.worker hx rfl (qeF he hf hne) (qdd hx rfl (fun k=>.inl k) id) (.inl ⟨rfl,fun k=>white.trans k,rfl,fun k=>⟨k,rfl⟩⟩)
 ·rw[h2];have hz:t.place=0:=by have:=(qaD hx).1;omega
  rw[hz]at hx;refine h.worker hx rfl (qeF he hf hne) (qdd hx rfl (fun k=>?_) (fun k=>(qsB hne).symm.trans k)) (.inl ⟨rfl,id,rfl,fun k=>⟨k,rfl⟩⟩);rw[qeE]at k;have:(f==e)=false:=by simpa using hne
  rw[this,Bool.or_false]at k;exact .inl k
 ·rw[h2];exact h.worker (y:=x) hx (qh3 (qaD hx).2.2).symm (qeF he hf hne) (qdd hx (qh3 (qaD hx).2.2).symm (fun k=>.inl k) id) (.inl ⟨rfl,id,rfl,fun k=>⟨k,rfl⟩⟩)
theorem qJJ{n:Int}(h:0≤n):(n+1).toNat=n.toNat+1:=by omega
theorem qJK{n:Int}:(n-1+1).toNat=n.toNat:=by rw[Int.sub_add_cancel]
theorem qh5{c:Cluster}{e:Int}{t u:Token}(h:tAt c e=some t):(if 0≤e then (c.tokens.set e.toNat u)[e.toNat]? else none)=some u:=by
 obtain⟨h0,_,h2⟩:=qfI h;rw[zp h0];exact qcM h2
theorem Inv.over{e:Int}{c:Cluster}{t:Token}{x:Worker}(h:Inv e c)(ht:tAt c e=some t)(hg:t.going=true)(h0:¬0<t.place)(hx:wAt c t.place=some x)(hp:qbF x e=true)
  (hb:t.black=false∧x.black.getD e.toNat false=false∧t.sum+x.sums.getD e.toNat 0=0):quiet e c∧((t.capped||cE e x)=false→∀z∈c.workers,cE e z=false):=by
 have hz:t.place=0:=by have:=(qaD hx).1;omega
 obtain⟨_,_,x2⟩:=qaD hx;rw[hz]at x2;have hs:preS e c 1=sE e x:=by rw[qkg (k:=0) x2];simp[preS]
 have hG:=h.token t ht hg;unfold Good at hG;rw[hz]at hG;change ((_∧preS e c 1+t.sum=_)∨0<preS e c 1+t.sum∨_) at hG;rw[hs]at hG;have hb3:t.sum+sE e x=0:=hb.2.2;rcases hG with⟨ga,gb⟩ | g | ⟨i,z,g1,g2,g3⟩ | g
 ·have key:∀z∈c.workers,qbF z e=true∧(cE e z=true→(t.capped||cE e x)=true):=by
   intro z hz;obtain⟨i,hi⟩:=List.getElem?_of_mem hz;by_cases h1:i=0
   ·subst h1;rw[show c.workers[0]?=some x from x2]at hi;cases hi;exact⟨hp,fun k=>by rw[k,Bool.or_true]⟩
   ·obtain⟨k1,k2⟩:=ga i z (by omega) hi;exact⟨k1,fun k=>by rw[k2 k,Bool.true_or]⟩
  refine⟨⟨fun z hz=>(key z hz).1,by omega⟩,fun hcap z hz=>?_⟩;cases hcz:cE e z with
  | false=>rfl
  | true=>rw[(key z hz).2 hcz]at hcap;cases hcap
 ·omega
 ·have:i=0:=by omega
  subst this;rw[show c.workers[0]?=some x from x2]at g2;cases g2;rw[show bE e x=false from hb.2.1]at g3;cases g3
 ·rw[hb.1]at g;cases g
theorem Inv.tokenOwn{e:Int}{c:Cluster}{t:Token}{x:Worker}(h:Inv e c)(hok:qai c=true)(ht:tAt c e=some t)(hx:wAt c t.place=some x):Inv e (tokenAt c e t x).1:=by
 obtain⟨i0,i1,i2⟩:=qaD hx;obtain⟨_,_,hrest,_⟩:=qdF.1 (qgE hok ht);rcases qcX c e t x with⟨_,h2⟩ | ⟨_,hp,h1⟩
 ·rw[h2];exact h
 have whole:∀u:Token,(u.going=true→Good e (setW (setT c e u) t.place (qaB x e)) u)→Inv e (setW (setT c e u) t.place (qaB x e)):=by
  intro u hu;have hpre:∀k,preS e (setW (setT c e u) t.place (qaB x e)) k=preS e c k:=fun k=>by
   have:=qgI (sE e) (qaB x e) (k:=k) i2;rw[show sE e (qaB x e)=sE e x from rfl,Int.sub_self,ite_self,Int.add_zero]at this;exact this
  refine⟨?_,fun t' hT hg=>?_,fun hT=>?_⟩
  ·rw[hpre,show (setW (setT c e u) t.place (qaB x e)).workers.length=c.workers.length from zn];exact h.total
  ·rw[show tAt (setW (setT c e u) t.place (qaB x e)) e=some u from qh5 ht]at hT;cases hT;exact hu hg
  ·obtain⟨q1,q2⟩:=h.tells (qdd (c:=c) (d:=setW (setT c e u) t.place (qaB x e)) hx rfl (fun k=>.inl k) id hT);refine⟨fun z hz=>?_,q2⟩;rcases zbf hz with hz | rfl
   ·exact q1 z hz
   ·exact hp
 have pre':∀(u:Token) k,preS e (setW (setT c e u) t.place (qaB x e)) k=preS e c k:=fun u k=>by
  have:=qgI (sE e) (qaB x e) (k:=k) i2;rw[show sE e (qaB x e)=sE e x from rfl,Int.sub_self,ite_self,Int.add_zero]at this;exact this
 rcases h1 with⟨hg,h2⟩ | ⟨hg,h0,h2⟩ | ⟨hg,h0,hb,h2⟩ | ⟨hg,h0,hb,h2⟩
 ·rw[h2];refine whole _ fun _=>.inl ⟨fun j z hj hz=>?_,?_⟩
  ·have:=lt_of hz;rw[show (setW (setT c e _) t.place (qaB x e)).workers.length=c.workers.length from zn]at this;change (c.workers.length:Int)-1<j at hj;omega
  ·rw[pre'];change preS e c ((c.workers.length:Int)-1+1).toNat+0=infl e c;rw[show ((c.workers.length:Int)-1+1).toNat=c.workers.length by omega,Int.add_zero];exact h.total
 ·rw[h2];have hG:=h.token t ht hg;refine whole _ fun _=>?_
  unfold Good at hG ⊢;rw[pre'];change ((∀(i:Nat) z,t.place-1<i→_→_)∧preS e c (t.place-1+1).toNat+(t.sum+sE e x)=infl e c)∨0<preS e c (t.place-1+1).toNat+(t.sum+sE e x)∨(∃(i:Nat) (z:Worker),(i:Int)≤t.place-1∧_)∨(t.black||bE e x)=true;rw[qJJ i0,qkg i2]at hG;rw[qJK];rcases hG with⟨ga,gb⟩ | g | ⟨i,z,g1,g2,g3⟩ | g
  ·refine .inl ⟨fun j z hj hz=>?_,by omega⟩;change (c.workers.set t.place.toNat (qaB x e))[j]?=some z at hz;rcases qeD hz with⟨rfl,rfl⟩ | ⟨hne,hz⟩
   ·exact⟨hp,fun k=>by change (t.capped||cE e x)=true;rw[show cE e x=true from k,Bool.or_true]⟩
   ·obtain⟨k1,k2⟩:=ga j z (by omega) hz;exact⟨k1,fun k=>by change (t.capped||cE e x)=true;rw[k2 k,Bool.true_or]⟩
  ·exact .inr (.inl (by omega))
  ·by_cases hi:i=t.place.toNat
   ·subst hi;rw[i2]at g2;cases g2;exact .inr (.inr (.inr (by rw[g3,Bool.or_true])))
   ·exact .inr (.inr (.inl ⟨i,z,by omega,qh2 g2 hi,g3⟩))
  ·exact .inr (.inr (.inr (by rw[g,Bool.true_or])))
 ·rw[h2];obtain⟨⟨q1,q2⟩,_⟩:=h.over ht hg h0 hx hp hb;have hz:t.place=0:=by omega
  rw[hz]at i2 i1;have hpre:∀k,((((c.workers.set 0 (told x e (t.capped||x.caps.getD e.toNat false))).take k).map (sE e)).sum)=preS e c k:=fun k=>by
   have:=qgI (sE e) (told x e (t.capped||x.caps.getD e.toNat false)) (k:=k) i2;rw[show sE e (told x e (t.capped||x.caps.getD e.toNat false))=sE e x from rfl,Int.sub_self,ite_self,Int.add_zero]at this;exact this
  refine⟨?_,fun t' hT hg'=>?_,fun _=>⟨fun z hz=>?_,q2⟩⟩
  ·refine (hpre _).trans ?_;rw[show (setN (setW (setT c e ⟨false,t.place,t.sum,t.black,t.capped⟩) 0 (told x e (t.capped||x.caps.getD e.toNat false))) (c.news++qaR (c.workers.length-1) e (t.capped||x.caps.getD e.toNat false))).workers.length=c.workers.length from zn];exact h.total
  ·change (if 0≤e then (c.tokens.set e.toNat _)[e.toNat]? else none)=some t' at hT;rw[qh5 ht]at hT;cases hT;cases hg'
  ·rcases zbf hz with hz | rfl
   ·exact q1 z hz
   ·exact hp
 ·rw[h2];refine⟨h.total,fun t' hT hg'=>?_,h.tells⟩;change (if 0≤e then (c.tokens.set e.toNat _)[e.toNat]? else none)=some t' at hT;rw[qh5 ht]at hT;cases hT;cases hg'
theorem Inv.step{e:Int}{c d:Cluster}{p:Pick}(h:Inv e c)(he:0≤e∧e≤3)(hok:qai c=true)(st:Step c p d):Inv e d:=by
 cases st with
 | work x r q hk hx hs hq=>
  have wk:=qbu hok hx;obtain⟨_,_,hl⟩:=qh4 wk;refine h.worker hx rfl rfl (qdd hx rfl (fun k=>.inl k) id) (.inl ⟨rfl,id,rfl,fun k=>?_⟩);obtain⟨k1,k2,k3⟩:=qco.1 k;rw[hq]at k2;have kr:=k2 r (zm ..);refine⟨qco.2 ⟨k1,fun a ha=>k2 a (zg _ ha),fun a ha=>?_⟩,?_⟩
  ·rw[qJF _ _ _ a ha];exact kr
  ·have hr:=qnd (qbd.1 wk).1 (r:=r) (by rw[hq];exact zm ..);unfold cE;dsimp only;split
   ·exact qfN (qfO hr.1 he.1 kr)
   ·rfl
 | input x r t hk hx hs hq hi=>
  refine h.worker hx rfl rfl (qdd hx rfl (fun k=>.inl k) id) (.inl ⟨rfl,id,rfl,fun k=>⟨?_,rfl⟩⟩);obtain⟨k1,k2,k3⟩:=qco.1 k;rw[hi]at k1;refine qco.2 ⟨fun a ha=>k1 a (zg _ ha),fun a ha=>?_,fun a ha=>by cases ha⟩;obtain rfl:a=r:=by simpa using ha
  have:=k1 a (zm ..);omega
 | keep x r t hk hx hs ho=>
  refine h.worker hx rfl rfl (qdd hx rfl (fun k=>.inl k) id) (.inl ⟨rfl,id,rfl,fun k=>⟨?_,rfl⟩⟩);obtain⟨k1,k2,k3⟩:=qco.1 k;rw[hs]at k3;refine qco.2 ⟨k1,fun a ha=>?_,fun a ha=>k3 a (zg _ ha)⟩;rcases zaz.1 ha with ha | ha
  ·exact k2 a ha
  ·obtain rfl:a=r:=by simpa using ha
   exact k3 a (zm ..)
 | send x r t l hk hx hs ho hl hsend=>
  obtain⟨_,_,_,e1⟩:=qh1 hsend;have wk:=qbu hok hx;obtain⟨hl4,_,_⟩:=qh4 wk;have hr:=qnd (qbd.1 wk).2.1 (r:=r) (by rw[hs];exact zm ..);have hf:=qnc (e:=e) (m:=(qaz l r).1) hl;have hs4:sE e (qbZ (qbf x t) r.stamp.epoch)=sE e x+(if r.stamp.epoch=e then 1 else 0):=qsA he hr hl4;rw[e1,qJG e _ _ r _ _ _ _ l rfl]at hf;refine h.worker hx (d:=setW (setL c _ (qaz l r).1) p.a _) rfl rfl (qdd hx rfl (fun k=>.inl k) id) ?_;have hfl:infl e (setW (setL c (qaw c.graph p.a (qay r.key c.graph.workers)) (qaz l r).1) p.a (qbZ (qbf x t) r.stamp.epoch))=infl e c+(if r.stamp.epoch=e then 1 else 0):=by
   rw[e1];change infl e (setL c _ _)=_;omega
  by_cases hre:r.stamp.epoch=e
  ·rw[zp hre]at hs4 hfl;refine .inr (.inl ⟨?_,hs4,id,hfl⟩);rw[zQ];intro k;obtain⟨_,_,k3⟩:=qco.1 k;exact k3 r (by rw[hs];exact zm ..) hre
  ·rw[zo hre]at hs4 hfl;refine .inl ⟨by omega,id,by omega,fun k=>⟨?_,rfl⟩⟩;obtain⟨k1,k2,k3⟩:=qco.1 k;rw[hs]at k3;exact qco.2 ⟨k1,k2,fun a ha=>k3 a (zg _ ha)⟩
 | take l x hk hab hl hx ht=>
  obtain⟨_,r,q,hq,e2,e1⟩:=qfK ht;have wk:=qbu hok hx;obtain⟨hl4,hb4,_⟩:=qh4 wk;have hr:=qdE (qj7 (qdb hok hl) ht).2;rw[e2]at hr;have hf:=qnc (e:=e) (m:=(qaq l).1) hl;have hs4:sE e (received x r)=sE e x+(if r.stamp.epoch=e then -1 else 0):=qsA he hr hl4;rw[e1,qJH e r q l hq l.cap l.credits (l.back+1) l.sent (l.got+1)]at hf;rw[e2];refine h.worker hx (d:=setW (setL c _ (qaq l).1) p.b _) rfl rfl (qdd hx rfl (fun k=>.inl k) id) ?_;have hfl:infl e (setW (setL c (qaw c.graph p.a p.b) (qaq l).1) p.b (received x r))+(if r.stamp.epoch=e then 1 else 0)=infl e c:=by
   rw[e1];change infl e (setL c _ _)+_=_;omega
  by_cases hre:r.stamp.epoch=e
  ·rw[zp hre]at hs4 hfl;refine .inr (.inr ⟨hfl.symm,by omega,?_⟩);unfold bE received;dsimp only;rw[hre];exact qkd (by omega)
  ·rw[zo hre]at hs4 hfl;refine .inl ⟨by omega,fun k=>?_,by omega,fun k=>⟨?_,rfl⟩⟩
   ·unfold bE received;dsimp only;rw[qfN (qfO hr.1 he.1 hre)];exact k
   ·obtain⟨k1,k2,k3⟩:=qco.1 k;refine qco.2 ⟨k1,fun a ha=>?_,k3⟩;rcases zaz.1 ha with ha | ha
    ·exact k2 a ha
    ·obtain rfl:a=r:=by simpa using ha
     exact hre
 | credit l hk hab hl hc=>
  rcases qfL l with⟨k,_⟩ | ⟨_,_,_,e1⟩
  ·rw[hc]at k;cases k
  have hf:=qnc (e:=e) (m:=(qaQ l).1) hl;have h2:qbp e (qaQ l).1=qbp e l:=by rw[e1];rfl
  have h3:infl e (setL c (qaw c.graph p.a p.b) (qaQ l).1)=infl e c:=by omega
  refine⟨by rw[h3];exact h.total,fun t hT hg=>?_,fun hT=>⟨(h.tells hT).1,by rw[h3];exact (h.tells hT).2⟩⟩;have hG:=h.token t hT hg;unfold Good at hG ⊢;rw[h3];exact hG
 | token t x x0 hk hin h0 hd ht hx hdid=>
  simp only[inR,zi]at hin;by_cases hpe:p.a=e
  ·subst hpe;exact h.tokenOwn hok ht hx
  ·exact h.tokenOther he.1 hin.1 hpe hx
 | hear k n x hk hn hd hx=>
  obtain⟨k1,k2,k3⟩:=qkf (x:=x) (n:=n) (e:=e);refine h.worker hx rfl rfl (qdd hx rfl (fun q=>?_) (fun q=>?_)) (.inl ⟨k1,fun q=>k2.trans q,rfl,fun q=>⟨qJI.trans q,k3⟩⟩)
  ·rw[qke,zbi]at q;rcases q with q | q
   ·exact .inl q
   ·exact .inr (zcj.2 ⟨n,qag hn,q⟩)
  ·unfold toldN at q ⊢;rw[zcj]at q ⊢;obtain⟨m,hm,q⟩:=q;refine⟨m,?_,q⟩;change m∈cutAt c.news k at hm;unfold cutAt at hm;rcases zaz.1 hm with hm | hm
   ·exact zbh hm
   ·exact zbn hm
end Go.Proofs.YtdkobdhckkjmeaaGreat
namespace Go.Proofs.YtdkobdhckkjmeaaGreat
open Go.Sx Go.RowKit
def kn(g:Graph)(op:Int):Int:=match qaN g op with | some n=>n.kind | none=>0
theorem kn_of{g:Graph}{op:Int}{n:Node}(h:qaN g op=some n):kn g op=n.kind:=by unfold kn;rw[h]
def HP(e:Int)(H:Cell→Prop)(Pd:Record→Prop)(x:Cell):Prop:=H x∨∃r,Pd r∧r.stamp.epoch=e∧cellOf r=x
structure Ghost (g:Graph) (F ins:List Cell) (e:Int) (H:Cell→Prop) (Pd:Record→Prop) (In:Cell→Prop) (mem:Nat→List Cell) (ow:Int→Nat) (capd:Prop):Prop where
 inp:∀x∈ins,In x∨Dom (HP e H Pd) x
 below:∀x,HP e H Pd x→Dom (fun a=>a∈F) x
 fit:∀x,HP e H Pd x→Fits g x∧x.epoch=e
 close:¬capd→∀x,H x→∃a,H a∧qau x a=true∧a.val≤x.val∧∀y∈succs g a,Dom (HP e H Pd) y
 memH:∀i,∀z∈mem i,z.epoch=e→H z∧ow z.key=i
 outs:∀x,H x→kn g x.op=8→∃z∈mem (ow x.key),qau x z=true∧z.val≤x.val
 uniq:∀i,∀z∈mem i,∀z'∈mem i,z.epoch=e→kn g z.op=8→qau z z'=true→z=z'
theorem rec_node{g:Graph}{r:Record}(h:qbB g r=false):qaC r=true∧∃n,qaN g r.op=some n:=by
 simp only[qbB,zy,zX,zf]at h;have h0:0≤r.op:=by
  have:=h.1;simp only[qaC,inR,zj,zi]at this;omega
 refine⟨h.1,?_⟩;unfold qaN;rw[zp h0];exact qal (by omega)
theorem outs_succs{g:Graph}{cs:List Cell}{r:Record}(hg:qax g=true)(hr:qbB g r=false):∀q∈(qav g cs r).2.1,cellOf q∈succs g (cellOf r):=by
 intro q hq;obtain⟨hok,n,hn⟩:=rec_node hr;rw[qEB hg hok hn]at hq;have hn':qaN g (cellOf r).op=some n:=hn;unfold succs;rw[hn'];have hs:∀s:Stamp,s.epoch=r.stamp.epoch→q∈sends n s (qak n r.key r.val).1 (qak n r.key r.val).2.1→cellOf q∈sendC n (cellOf r) (qak n r.key r.val).1 (qak n r.key r.val).2.1:=by
  intro s hse hm;obtain⟨o,ho,rfl⟩:=zbm.1 hm;exact zbm.2 ⟨o,ho,by unfold cellOf;rw[hse]⟩
 have hne:(qaG r.stamp).1.epoch=r.stamp.epoch:=by unfold qaG;split<;>rfl
 split at hq
 ·cases hq
 rename_i hc;split at hq
 ·cases hq
 have hgo:(qak n r.key r.val).2.2=true∨n.outs=[]:=by
  cases hz:(qak n r.key r.val).2.2 with
  | true=>exact .inl rfl
  | false=>
   right;rw[hz]at hc;have h8:n.kind=8:=by simpa using hc
   have nk:=qro hg hn;unfold qab at nk;rw[h8]at nk;simp only[zj,zS,zby,zbl,zf]at nk;exact List.length_eq_zero_iff.1 (by omega)
 dsimp only;rcases hgo with hgo | hgo
 ·rw[zp (show (qak n (cellOf r).key (cellOf r).val).2.2=true from hgo)];split at hq
  ·split at hq
   ·exact hs _ hne hq
   ·cases hq
  ·exact hs _ rfl hq
 ·have hz:∀s k v,sends n s k v=[]:=fun s k v=>by simp[sends,hgo]
  simp only[hz,ite_self]at hq;cases hq
theorem succs_outs{g:Graph}{cs:List Cell}{r:Record}{n:Node}(hg:qax g=true)(hok:qaC r=true)(hn:qaN g r.op=some n)(hp:(qaj n.kind cs (cellOf r)).2=true)(hc:capped g r=false):∀y∈succs g (cellOf r),∃q∈(qav g cs r).2.1,cellOf q=y:=by
 intro y hy;have hn':qaN g (cellOf r).op=some n:=hn;unfold succs at hy;rw[hn']at hy;dsimp only at hy;split at hy
 case isFalse=>cases hy
 rename_i hgo;have hgo':(qak n r.key r.val).2.2=true:=hgo;obtain⟨o,ho,rfl⟩:=zbm.1 hy;rw[qEB hg hok hn,zo (by rw[hgo'];simp),zo (by rw[hp];decide)];split
 ·rename_i h7;have hnx:(qaG r.stamp).2=true:=by
   unfold capped at hc;rw[hn]at hc;dsimp only at hc;unfold qbH at hc;rw[hg,hok,h7]at hc;simp only[Bool.and_self,zby,zbl,Bool.and_eq_false_imp,zi,zX]at hc;exact hc (List.length_pos_of_mem ho)
  rw[zp hnx];refine⟨⟨o,(qaG r.stamp).1,(qak n r.key r.val).1,(qak n r.key r.val).2.1⟩,zbm.2 ⟨o,ho,rfl⟩,?_⟩;have hne:(qaG r.stamp).1.epoch=r.stamp.epoch:=by unfold qaG;split<;>rfl
  unfold cellOf;rw[hne]
 ·exact⟨⟨o,r.stamp,(qak n r.key r.val).1,(qak n r.key r.val).2.1⟩,zbm.2 ⟨o,ho,rfl⟩,rfl⟩
theorem cells_after{g:Graph}{cs:List Cell}{r:Record}{n:Node}(hg:qax g=true)(hok:qaC r=true)(hn:qaN g r.op=some n):
  ((qav g cs r).1=cs∧((n.kind=5∨n.kind=6∨n.kind=8)→qdU n.kind cs (cellOf r)))∨
  ((n.kind=5∨n.kind=6∨n.kind=8)∧(qaj n.kind cs (cellOf r)).2=true∧(∀z,z∈(qav g cs r).1↔z=cellOf r∨(z∈cs∧(n.kind≠6→qau (cellOf r) z=false)))∧∀z∈cs,n.kind≠6→qau (cellOf r) z=true→(cellOf r).val≤z.val):=by
 have e:=qEA (cs:=cs) hg hok hn;by_cases hk:n.kind=5∨n.kind=6∨n.kind=8
 ·cases hr:(qaj n.kind cs (cellOf r)).2 with
  | false=>exact .inl ⟨by rw[e,qEw hr],fun _=>(qjI hk _ _).1 hr⟩
  | true=>
   refine .inr ⟨hk,rfl,fun z=>by rw[e];exact qjJ hk hr,fun z hz h6 hs=>?_⟩;refine Classical.byContradiction fun hv=>?_
   have:qdU n.kind cs (cellOf r):=by
    unfold qdU;rw[zo h6];exact⟨z,hz,hs,by omega⟩
   rw[(qjI hk _ _).2 this]at hr;cases hr
 ·exact .inl ⟨by rw[e,qfu (by omega) (by omega) (by omega)],fun q=>absurd q hk⟩
section
variable {g : Graph} {F ins : List Cell} {e : Int} {H : Cell → Prop} {Pd Pd' : Record → Prop} {In In' : Cell → Prop} {mem mem' : Nat → List Cell} {ow : Int → Nat} {capd capd' : Prop}
theorem Ghost.work(h:Ghost g F ins e H Pd In mem ow capd)(hg:qax g=true)(hF:∀x∈F,∀y∈succs g x,Dom (fun a=>a∈F) y)(hFi:∀x∈F,qaJ x.key x.val=true){r:Record}{i:Nat}(hr:qbB g r=false)(hre:r.stamp.epoch=e)(hp:Pd r)(ho:ow r.key=i)
  (hP1:∀q,Pd q→Pd' q∨q=r) (hP2:∀q∈(qav g (mem i) r).2.1,Pd' q) (hP3:∀q,Pd' q→Pd q∨q∈(qav g (mem i) r).2.1)
  (hm1:mem' i=(qav g (mem i) r).1) (hm2:∀j,j≠i→mem' j=mem j) (hc1:capd→capd') (hc2:capped g r=true→capd'):
  Ghost g F ins e (fun x=>H x∨x=cellOf r) Pd' In mem' ow capd':=by
 obtain⟨hok,n,hn⟩:=rec_node hr;have hkn:kn g r.op=n.kind:=kn_of hn;have hHr:HP e H Pd (cellOf r):=.inr ⟨r,hp,hre,rfl⟩;have up:∀x,HP e H Pd x→HP e (fun x=>H x∨x=cellOf r) Pd' x:=by
  rintro x (hx | ⟨q,hq,hqe,rfl⟩)
  ·exact .inl (.inl hx)
  ·rcases hP1 q hq with hq | rfl
   ·exact .inr ⟨q,hq,hqe,rfl⟩
   ·exact .inl (.inr rfl)
 have down:∀x,HP e (fun x=>H x∨x=cellOf r) Pd' x→HP e H Pd x∨x∈succs g (cellOf r):=by
  rintro x ((hx | rfl) | ⟨q,hq,hqe,rfl⟩)
  ·exact .inl (.inl hx)
  ·exact .inl hHr
  ·rcases hP3 q hq with hq | hq
   ·exact .inl (.inr ⟨q,hq,hqe,rfl⟩)
   ·exact .inr (outs_succs hg hr q hq)
 have hfit:=h.fit _ hHr;have aft:=cells_after (cs:=mem i) hg hok hn;have hrk:(cellOf r).epoch=e:=hre;refine⟨fun x hx=>(h.inp x hx).imp id fun q=>q.mono fun a ha=>.self (up a ha),fun x hx=>?_,fun x hx=>?_,fun hcap x hx=>?_,fun j z hz hze=>?_,fun x hx h8=>?_,fun j z hz z' hz' hze h8 hs=>?_⟩
 ·rcases down x hx with hx | hx
  ·exact h.below x hx
  ·obtain⟨f,hf,k1,k2⟩:=h.below _ hHr;obtain⟨w,hw,w1,w2⟩:=succs_less hg hfit.1.2.1 (hFi f hf) k1 k2 x hx;exact (hF f hf w hw).less w1 w2
 ·rcases down x hx with hx | hx
  ·exact h.fit x hx
  ·refine⟨succs_fit hg hfit.1 x hx,?_⟩;unfold succs at hx;rw[show qaN g (cellOf r).op=some n from hn]at hx;dsimp only at hx;split at hx
   ·obtain⟨o,_,rfl⟩:=zbm.1 hx;exact hre
   ·cases hx
 ·have hcap0:¬capd:=fun q=>hcap (hc1 q)
  have old:∀x,H x→∃a,(H a∨a=cellOf r)∧qau x a=true∧a.val≤x.val∧∀y∈succs g a,Dom (HP e (fun x=>H x∨x=cellOf r) Pd') y:=fun x hx=>by
   obtain⟨a,k1,k2,k3,k4⟩:=h.close hcap0 x hx;exact⟨a,.inl k1,k2,k3,fun y hy=>(k4 y hy).mono fun b hb=>.self (up b hb)⟩
  rcases hx with hx | rfl
  ·exact old x hx
  ·have blocked:(n.kind=5∨n.kind=6∨n.kind=8)→qdU n.kind (mem i) (cellOf r)→∃a,(H a∨a=cellOf r)∧qau (cellOf r) a=true∧a.val≤(cellOf r).val∧∀y∈succs g a,Dom (HP e (fun x=>H x∨x=cellOf r) Pd') y:=fun hk hb=>by
    have:∃a∈mem i,qau (cellOf r) a=true∧a.val≤(cellOf r).val:=by
     unfold qdU at hb;split at hb
     ·exact⟨cellOf r,hb,slot_refl _,Int.le_refl _⟩
     ·exact hb
    obtain⟨a,ha,k1,k2⟩:=this;have hae:a.epoch=e:=(qft.1 k1).2.1.trans hre;obtain⟨b,b1,b2,b3,b4⟩:=old a (h.memH i a ha hae).1;exact⟨b,b1,slot_trans k1 b2,zaq b3 k2,b4⟩
   have pass:(qaj n.kind (mem i) (cellOf r)).2=true→∃a,(H a∨a=cellOf r)∧qau (cellOf r) a=true∧a.val≤(cellOf r).val∧∀y∈succs g a,Dom (HP e (fun x=>H x∨x=cellOf r) Pd') y:=fun hrp=>by
    have hcr:capped g r=false:=by
     cases hcc:capped g r with
     | false=>rfl
     | true=>exact absurd (hc2 hcc) hcap
    refine⟨cellOf r,.inr rfl,slot_refl _,Int.le_refl _,fun y hy=>?_⟩;obtain⟨q,hq,rfl⟩:=succs_outs hg hok hn hrp hcr y hy;exact .self (.inr ⟨q,hP2 q hq,(qJF _ _ _ q hq).trans hre,rfl⟩)
   cases hrc:(qaj n.kind (mem i) (cellOf r)).2 with
   | true=>exact pass hrc
   | false=>
    by_cases hk:n.kind=5∨n.kind=6∨n.kind=8
    ·exact blocked hk ((qjI hk _ _).1 hrc)
    ·rw[qfu (by omega) (by omega) (by omega)]at hrc;cases hrc
 ·by_cases hj:j=i
  ·subst hj;rw[hm1]at hz;rcases aft with⟨ea,_⟩ | ⟨_,_,ea,_⟩
   ·rw[ea]at hz;exact (h.memH j z hz hze).imp .inl id
   ·rcases (ea z).1 hz with rfl | ⟨hz,_⟩
    ·exact⟨.inr rfl,ho⟩
    ·exact (h.memH j z hz hze).imp .inl id
  ·rw[hm2 j hj]at hz;exact (h.memH j z hz hze).imp .inl id
 ·have keepz:∀x,(∃z∈mem (ow x.key),qau x z=true∧z.val≤x.val)→∃z∈mem' (ow x.key),qau x z=true∧z.val≤x.val:=by
   rintro x ⟨z,hz,k1,k2⟩;by_cases hj:ow x.key=i
   ·rw[hj]at hz ⊢;rw[hm1];rcases aft with⟨ea,_⟩ | ⟨hk,_,ea,eb⟩
    ·rw[ea];exact⟨z,hz,k1,k2⟩
    ·by_cases hrem:n.kind≠6∧qau (cellOf r) z=true
     ·exact⟨cellOf r,(ea _).2 (.inl rfl),slot_trans k1 (slot_symm hrem.2),zaq (eb z hz hrem.1 hrem.2) k2⟩
     ·exact⟨z,(ea z).2 (.inr ⟨hz,fun h6=>by
       cases hss:qau (cellOf r) z with
       | false=>rfl
       | true=>exact absurd ⟨h6,hss⟩ hrem⟩),k1,k2⟩
   ·rw[hm2 _ hj];exact⟨z,hz,k1,k2⟩
  rcases hx with hx | rfl
  ·exact keepz x (h.outs x hx h8)
  ·have hk8:n.kind=8:=hkn.symm.trans h8;change ∃z∈mem' (ow r.key),_;rcases aft with⟨ea,eb⟩ | ⟨_,_,ea,_⟩
   ·have hb:=eb (.inr (.inr hk8));unfold qdU at hb;rw[zo (by omega)]at hb;rw[ho,hm1,ea];exact hb
   ·rw[ho,hm1];exact⟨cellOf r,(ea _).2 (.inl rfl),slot_refl _,Int.le_refl _⟩
 ·by_cases hj:j=i
  ·subst hj;rw[hm1]at hz hz';rcases aft with⟨ea,_⟩ | ⟨_,_,ea,_⟩
   ·rw[ea]at hz hz';exact h.uniq j z hz z' hz' hze h8 hs
   ·have k6:∀w:Cell,w.op=r.op→kn g w.op=8→n.kind≠6:=fun w hw hw8=>by rw[hw,hkn]at hw8;omega
    rcases (ea z).1 hz with rfl | ⟨hz,n1⟩
    ·rcases (ea z').1 hz' with rfl | ⟨_,n2⟩
     ·rfl
     ·rw[n2 (k6 _ rfl h8)]at hs;cases hs
    ·rcases (ea z').1 hz' with rfl | ⟨hz',_⟩
     ·have hs':=slot_symm hs;rw[n1 (k6 z (qft.1 hs').1 h8)]at hs';cases hs'
     ·exact h.uniq j z hz z' hz' hze h8 hs
  ·rw[hm2 j hj]at hz hz';exact h.uniq j z hz z' hz' hze h8 hs
theorem Ghost.other(h:Ghost g F ins e H Pd In mem ow capd)(hg:qax g=true){r:Record}{i:Nat}(hr:qbB g r=false)(hre:r.stamp.epoch≠e)
  (hP1:∀q,Pd q→Pd' q∨q=r) (hP3:∀q,Pd' q→Pd q∨q∈(qav g (mem i) r).2.1)
  (hm1:mem' i=(qav g (mem i) r).1) (hm2:∀j,j≠i→mem' j=mem j) (hc1:capd→capd'):Ghost g F ins e H Pd' In mem' ow capd':=by
 obtain⟨hok,n,hn⟩:=rec_node hr;have up:∀x,HP e H Pd x→HP e H Pd' x:=by
  rintro x (hx | ⟨q,hq,hqe,rfl⟩)
  ·exact .inl hx
  ·rcases hP1 q hq with hq | rfl
   ·exact .inr ⟨q,hq,hqe,rfl⟩
   ·exact absurd hqe hre
 have down:∀x,HP e H Pd' x→HP e H Pd x:=by
  rintro x (hx | ⟨q,hq,hqe,rfl⟩)
  ·exact .inl hx
  ·rcases hP3 q hq with hq | hq
   ·exact .inr ⟨q,hq,hqe,rfl⟩
   ·exact absurd ((qJF _ _ _ q hq).symm.trans hqe) hre
 have same:∀j z,z.epoch=e→(z∈mem' j↔z∈mem j):=fun j z hze=>by
  by_cases hj:j=i
  ·subst hj;rw[hm1];rcases cells_after (cs:=mem j) hg hok hn with⟨ea,_⟩ | ⟨_,_,ea,_⟩
   ·rw[ea]
   ·rw[ea];constructor
    ·rintro (rfl | ⟨hz,_⟩)
     ·exact absurd hze hre
     ·exact hz
    ·intro hz;refine .inr ⟨hz,fun _=>?_⟩;rw[zQ];exact fun hs=>hre ((qft.1 hs).2.1.symm.trans hze)
  ·rw[hm2 j hj]
 refine⟨fun x hx=>(h.inp x hx).imp id fun q=>q.mono fun a ha=>.self (up a ha),fun x hx=>h.below x (down x hx),fun x hx=>h.fit x (down x hx),fun hcap x hx=>?_,fun j z hz hze=>h.memH j z ((same j z hze).1 hz) hze,fun x hx h8=>?_,fun j z hz z' hz' hze h8 hs=>?_⟩
 ·obtain⟨a,k1,k2,k3,k4⟩:=h.close (fun q=>hcap (hc1 q)) x hx;exact⟨a,k1,k2,k3,fun y hy=>(k4 y hy).mono fun b hb=>.self (up b hb)⟩
 ·obtain⟨z,hz,k1,k2⟩:=h.outs x hx h8;exact⟨z,(same _ z ((qft.1 k1).2.1.trans (h.fit x (.inl hx)).2)).2 hz,k1,k2⟩
 ·exact h.uniq j z ((same j z hze).1 hz) z' ((same j z' ((qft.1 hs).2.1.trans hze)).1 hz') hze h8 hs
theorem Ghost.move(h:Ghost g F ins e H Pd In mem ow capd)(hm:∀j,mem' j=mem j)(hc:capd→capd')(hP1:∀q,Pd q→Pd' q)(hP3:∀q,Pd' q→q.stamp.epoch=e→Pd q∨(Dom (fun a=>a∈F) (cellOf q)∧Fits g (cellOf q)))
  (hI:∀x,In x→In' x∨∃q,Pd' q∧q.stamp.epoch=e∧cellOf q=x):Ghost g F ins e H Pd' In' mem' ow capd':=by
 have hmm:mem'=mem:=funext hm;subst hmm;have up:∀x,HP e H Pd x→HP e H Pd' x:=by
  rintro x (hx | ⟨q,hq,hqe,rfl⟩)
  ·exact .inl hx
  ·exact .inr ⟨q,hP1 q hq,hqe,rfl⟩
 refine⟨fun x hx=>?_,fun x hx=>?_,fun x hx=>?_,fun hcap x hx=>?_,h.memH,h.outs,h.uniq⟩
 ·rcases h.inp x hx with k | k
  ·rcases hI x k with k | k
   ·exact .inl k
   ·exact .inr (.self (.inr k))
  ·exact .inr (k.mono fun a ha=>.self (up a ha))
 ·rcases hx with hx | ⟨q,hq,hqe,rfl⟩
  ·exact h.below x (.inl hx)
  ·rcases hP3 q hq hqe with hq | hq
   ·exact h.below _ (.inr ⟨q,hq,hqe,rfl⟩)
   ·exact hq.1
 ·rcases hx with hx | ⟨q,hq,hqe,rfl⟩
  ·exact h.fit x (.inl hx)
  ·rcases hP3 q hq hqe with hq | hq
   ·exact h.fit _ (.inr ⟨q,hq,hqe,rfl⟩)
   ·exact⟨hq.2,hqe⟩
 ·obtain⟨a,k1,k2,k3,k4⟩:=h.close (fun q=>hcap (hc q)) x hx;exact⟨a,k1,k2,k3,fun y hy=>(k4 y hy).mono fun b hb=>.self (up b hb)⟩
theorem Ghost.final(h:Ghost g F ins e H Pd In mem ow capd)(hcap:¬capd)(hP:∀q,Pd q→q.stamp.epoch≠e)(hI:∀x,¬In x)
  (hF1:∀K:Cell→Prop,(∀x,K x→qaJ x.key x.val=true)→(∀x,K x→∀y∈succs g x,Dom K y)→(∀x∈ins,Dom K x)→∀x∈F,Dom K x) (hF2:∀a∈F,∀b∈F,qau a b=true→a=b) (hg:qax g=true):
  (∀i,∀z∈mem i,z.epoch=e→kn g z.op=8→z∈F)∧∀f∈F,kn g f.op=8→f∈mem (ow f.key):=by
 have only:∀x,HP e H Pd x→H x:=by
  rintro x (hx | ⟨q,hq,hqe,_⟩)
  ·exact hx
  ·exact absurd hqe (hP q hq)
 have fits:∀x,H x→qaJ x.key x.val=true:=fun x hx=>(h.fit x (.inl hx)).1.2.1
 have closed:∀x,H x→∀y∈succs g x,Dom H y:=fun x hx y hy=>by
  obtain⟨a,k1,k2,k3,k4⟩:=h.close hcap x hx;obtain⟨w,hw,w1,w2⟩:=succs_less hg (fits x hx) (fits a k1) k2 k3 y hy;exact ((k4 w hw).mono fun b hb=>.self (only b hb)).less w1 w2
 have least:=hF1 H fits closed fun x hx=>((h.inp x hx).resolve_left (hI x)).mono fun b hb=>.self (only b hb)
 have valeq:∀{a b:Cell},qau a b=true→a.val=b.val→a=b:=fun {a b} hs hv=>by
  obtain⟨s1,s2,s3⟩:=qft.1 hs;cases a;cases b;simp only at s1 s2 s3 hv;rw[s1,s2,s3,hv]
 constructor
 ·intro i z hz hze h8;obtain⟨hH,hi⟩:=h.memH i z hz hze;obtain⟨f,hf,k1,k2⟩:=h.below z (.inl hH);obtain⟨x,hx,x1,x2⟩:=least f hf;have hzx:=slot_trans k1 x1;obtain⟨s1,s2,s3⟩:=qft.1 hzx;obtain⟨z2,hz2,w1,w2⟩:=h.outs x hx (by rw[s1];exact h8);rw[s3,hi]at hz2;have:=h.uniq i z hz z2 hz2 hze h8 (slot_trans hzx w1);subst this;have hzf:z=f:=valeq k1 (by omega);rw[hzf];exact hf
 ·intro f hf h8;obtain⟨x,hx,x1,x2⟩:=least f hf;obtain⟨s1,s2,s3⟩:=qft.1 x1;obtain⟨z,hz,w1,w2⟩:=h.outs x hx (by rw[s1];exact h8);rw[s3]at hz;have hfz:=slot_trans x1 w1;have hze:z.epoch=e:=(qft.1 w1).2.1.trans (h.fit x (.inl hx)).2;obtain⟨hH,_⟩:=h.memH _ z hz hze;obtain⟨f2,hf2,k1,k2⟩:=h.below z (.inl hH);have:=hF2 f hf f2 hf2 (slot_trans hfz k1);subst this;have hzf:f=z:=valeq hfz (by omega);rw[hzf]at hz ⊢;exact hz
end
end Go.Proofs.YtdkobdhckkjmeaaGreat
