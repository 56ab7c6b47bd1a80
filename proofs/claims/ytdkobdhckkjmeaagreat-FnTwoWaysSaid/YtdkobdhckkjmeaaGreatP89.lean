/- As long as something is pending or has not come in, some pick does something. -/
import Derived.Test.YtdkobdhckkjmeaaGreatP55
import Derived.Test.YtdkobdhckkjmeaaGreatP72
import Derived.Test.YtdkobdhckkjmeaaGreatP61
set_option linter.unusedVariables false
set_option linter.unusedSimpArgs false
namespace Go.Proofs.YtdkobdhckkjmeaaGreat
open Go.Sx Go.RowKit
def Still(c:Cluster):Prop:=(∀x∈c.workers,x.queue=[]∧x.staged=[]∧x.inputs=[])∧(∀l∈c.links,l.queue=[])∧∀(a b:Int) l,a≠b→lAt c (qaw c.graph a b)=some l→l.back=0
section
variable {c : Cluster} {S b : Int}
theorem qPC(hok:qai c=true){i:Int}{x:Worker}(hx:wAt c i=some x)(hs:x.staged=[])(h:(stepPick c ⟨1,i,b⟩).2=false):x.queue=[]:=by
 have hg:=(qaH.1 hok).1;have hw:=qbu hok hx;cases hq:x.queue with
 | nil=>rfl
 | cons r q=>
  exfalso;simp only[stepPick,qbr,hok,hx,qaZ,hg,hw,hs,hq]at h;simp at h
theorem qPD(hok:qai c=true){i:Int}{x:Worker}(hx:wAt c i=some x)(hs:x.staged=[])(hq:x.queue=[])(h:(stepPick c ⟨2,i,b⟩).2=false):x.inputs=[]:=by
 have hg:=(qaH.1 hok).1;have hw:=qbu hok hx;cases hi:x.inputs with
 | nil=>rfl
 | cons r q=>
  exfalso;simp only[stepPick,qbs,hok,hx,qa0,hg,hw,hs,hq,hi]at h;simp at h
theorem qun(hok:qai c=true){i j:Int}{l:Link}(hij:i≠j)(hl:lAt c (qaw c.graph i j)=some l)(h:(stepPick c ⟨5,i,j⟩).2=false):l.back=0:=by
 have hk:=(qcB.1 (qdb hok hl)).1;have hne:(i != j)=true:=by simpa using hij
 refine Classical.byContradiction fun hb=>?_
 have hb':(l.back != 0)=true:=by simpa using hb
 simp only[stepPick,qbt,hok,hl,hne,qaQ,hk,hb']at h;simp at h
theorem qPE(hok:qai c=true){i j:Int}{l:Link}{x:Worker}(hij:i≠j)(hl:lAt c (qaw c.graph i j)=some l)(hx:wAt c j=some x)(h:(stepPick c ⟨4,i,j⟩).2=false):l.queue=[]:=by
 have hk:=(qcB.1 (qdb hok hl)).1;have hne:(i != j)=true:=by simpa using hij
 cases hq:l.queue with
 | nil=>rfl
 | cons r q=>
  exfalso;simp only[stepPick,qbx,hok,hl,hx,hne,qaq,hk,hq]at h;simp at h
theorem qPF(hok:qai c=true)(hb:Bound S c)(hS:S≤200000){i:Int}{x:Worker}(hx:wAt c i=some x)(hc:∀j l,j≠i→lAt c (qaw c.graph i j)=some l→l.credits≠0)(h:(stepPick c ⟨3,i,b⟩).2=false):x.staged=[]:=by
 have hn:=qa8 (qaH.1 hok).1;have hlen:=(qaH.1 hok).2.1;obtain⟨i0,i1,_⟩:=qaD hx;cases hs:x.staged with
 | nil=>rfl
 | cons r t=>
  exfalso;have h3:(stepPick c ⟨3,i,b⟩).2=(qda c i x r t (qay r.key c.graph.workers)).2:=by
   simp only[stepPick,qbk,hok,hx,hs];simp
  rw[h3]at h;unfold qda at h;split at h
  ·cases h
  ·rename_i ho;have hi:inR i 0 (c.graph.workers-1)=true:=by simp only[inR,zi];omega
   obtain⟨l,hl⟩:=qfJ hok hi (qhV r.key hn.1);have hk:=(qcB.1 (qdb hok hl)).1;have hsent:=hb.sent l (qag (qbl hl).2.2);have hcr:=hc _ l ho hl;have hr:=(qbd.1 (qbu hok hx)).2.1;rw[hs,qdc]at hr;have hr:=hr.1;simp only[qbB,zy,zX]at hr;have hsd:(qaz l r).2=true:=by
    unfold qaz;rw[hk,hr.1,show (l.credits != 0)=true by simpa using hcr,zap (by omega)];rfl
   rw[hl]at h;simp only[hsd]at h;simp at h
end
theorem qup{n w:Nat}(h:w<n){p:Pick}(hp:p∈qbz w):p∈qb0 n:=by
 unfold qb0;exact zar.2 ⟨w,List.mem_range.2 h,hp⟩
theorem qPG{n a b:Nat}(ha:a<n)(hb:b<n){p:Pick}(hp:p∈twoOf a b):p∈qcb n n:=by
 unfold qcb qcY;exact zar.2 ⟨a,List.mem_range.2 ha,zar.2 ⟨b,List.mem_range.2 hb,hp⟩⟩
theorem qnX{g:Graph}(h:1≤g.workers∧g.workers≤4):qaV g.workers 0 4=g.workers:=by
 unfold qaV;rw[zo (by omega),zo (by omega),zo (by omega)]
theorem qPH{n:Int}(hn:1≤n∧n≤4){k:Nat}(hk:(k:Int)<n*n):∃a b:Nat,(a:Int)<n∧(b:Int)<n∧(k:Int)=a*n+b:=by
 have h4:n=1∨n=2∨n=3∨n=4:=by omega
 refine⟨((k:Int) / n).toNat,((k:Int) % n).toNat,?_⟩;rcases h4 with rfl | rfl | rfl | rfl<;>omega
structure Same (c d:Cluster):Prop where
 graph:d.graph=c.graph
 links:d.links=c.links
 len:d.workers.length=c.workers.length
 w:∀(i:Nat) x,c.workers[i]?=some x→∃y,d.workers[i]?=some y∧y.queue=x.queue∧y.staged=x.staged∧y.inputs=x.inputs
theorem Same.rfl{c:Cluster}:Same c c:=⟨Eq.refl _,Eq.refl _,Eq.refl _,fun _ x h=>⟨x,h,Eq.refl _,Eq.refl _,Eq.refl _⟩⟩
theorem Same.trans{c d e:Cluster}(h:Same c d)(k:Same d e):Same c e:=⟨k.graph.trans h.graph,k.links.trans h.links,k.len.trans h.len,fun i x hx=>by
 obtain⟨y,hy,h1,h2,h3⟩:=h.w i x hx;obtain⟨z,hz,k1,k2,k3⟩:=k.w i y hy;exact⟨z,hz,k1.trans h1,k2.trans h2,k3.trans h3⟩⟩
theorem Same.wAt{c d:Cluster}(h:Same c d){i:Int}{x:Worker}(hx:wAt c i=some x):∃y,wAt d i=some y∧y.queue=x.queue∧y.staged=x.staged∧y.inputs=x.inputs:=by
 obtain⟨h0,_,h2⟩:=qaD hx;unfold Go.Proofs.YtdkobdhckkjmeaaGreat.wAt;rw[zp h0];exact h.w _ x h2
theorem Same.lAt{c d:Cluster}(h:Same c d)(a b:Int):lAt d (qaw d.graph a b)=lAt c (qaw c.graph a b):=by
 unfold Go.Proofs.YtdkobdhckkjmeaaGreat.lAt;rw[h.links,h.graph]
theorem Same.set{c d:Cluster}{i:Int}{x y:Worker}(hx:Go.Proofs.YtdkobdhckkjmeaaGreat.wAt c i=some x)(h1:d.graph=c.graph)(h2:d.links=c.links)(h3:d.workers=c.workers.set i.toNat y)(h4:y.queue=x.queue)(h5:y.staged=x.staged)(h6:y.inputs=x.inputs):Same c d:=
 ⟨h1,h2,by rw[h3,zn],fun j z hz=>by
  rw[h3];by_cases hj:j=i.toNat
  ·subst hj;rw[(qaD hx).2.2]at hz;cases hz;exact⟨y,qcM (qaD hx).2.2,h4,h5,h6⟩
  ·exact⟨z,qh2 hz hj,Eq.refl _,Eq.refl _,Eq.refl _⟩⟩
def Stuck(c:Cluster)(p:Pick):Prop:=∃(d:Cluster) (S:Int),qai d=true∧Bound S d∧S≤200000∧Same c d∧(stepPick d p).2=false
theorem quq{c:Cluster}(hok:qai c=true)(hno:∀p∈qaO c,p.kind≤5→Stuck c p):Still c:=by
 obtain⟨hg,hwl,hll,_⟩:=qaH.1 hok;have hn:=qa8 hg;obtain⟨n,hnn⟩:∃n:Nat,c.graph.workers=n:=⟨c.graph.workers.toNat,by omega⟩
 have hpA:∀p∈qb0 n,p∈qaO c:=fun p hp=>by
  unfold qaO;rw[qnX hn,hnn,zae];exact zI _ (zI _ hp)
 have hpC:∀p∈qcb n n,p∈qaO c:=fun p hp=>by
  unfold qaO;rw[qnX hn,hnn,zae];exact zI _ (zJ _ hp)
 have four:∀w:Nat,w<n→∀p∈qbz w,p.kind≤5→Stuck c p:=fun w hw p hp hk=>hno p (hpA p (qup hw hp)) hk
 have two:∀a b:Nat,a<n→b<n→∀p∈twoOf a b,p.kind≤5→Stuck c p:=fun a b ha hbb p hp hk=>hno p (hpC p (qPG ha hbb hp)) hk
 have inr:∀a:Nat,a<n→inR (a:Int) 0 (c.graph.workers-1)=true:=fun a ha=>by simp only[inR,zi];omega
 have links:∀a b:Nat,a<n→b<n→a≠b→∀l,lAt c (qaw c.graph a b)=some l→l.queue=[]∧l.back=0:=fun a b ha hbb hab l hl=>by
  obtain⟨x,hx⟩:=qcC (c:=c) (i:=(b:Int)) (by omega) (by omega);have m4:(⟨4,(a:Int),(b:Int)⟩:Pick)∈twoOf a b:=by simp[twoOf,hab]
  have m5:(⟨5,(a:Int),(b:Int)⟩:Pick)∈twoOf a b:=by simp[twoOf,hab]
  obtain⟨d,S,d1,d2,d3,d4,d5⟩:=two a b ha hbb _ m4 (by dsimp only;omega);obtain⟨f,T,f1,f2,f3,f4,f5⟩:=two a b ha hbb _ m5 (by dsimp only;omega);obtain⟨y,hy,_⟩:=d4.wAt hx;exact⟨qPE d1 (by omega) ((d4.lAt _ _).trans hl) hy d5,qun f1 (by omega) ((f4.lAt _ _).trans hl) f5⟩
 have creds:∀a:Nat,a<n→∀(j:Int) l,j≠a→lAt c (qaw c.graph a j)=some l→l.credits≠0:=fun a ha j l hj hl=>by
  obtain⟨_,g2⟩:=qkm (qbl hl).1;simp only[inR,zi]at g2;obtain⟨b,rfl⟩:∃b:Nat,j=b:=⟨j.toNat,by omega⟩
  obtain⟨q1,q2⟩:=links a b ha (by omega) (by omega) l hl;obtain⟨k1,_,_,k4,_⟩:=qcn.1 (qcB.1 (qdb hok hl)).1;simp only[inR,zi]at k1;rw[q1,q2]at k4;simp only[zh]at k4;omega
 refine⟨?_,?_,fun a b l hab hl=>?_⟩
 ·intro x hx;obtain⟨w,hw⟩:=List.getElem?_of_mem hx;have hwn:=lt_of hw;have hx':wAt c (w:Int)=some x:=by unfold wAt;rw[zp (by omega)];simpa using hw
  obtain⟨d,S,d1,d2,d3,d4,d5⟩:=four w (by omega) ⟨3,w,0⟩ (by simp[qbz]) (by dsimp only;omega);obtain⟨y,hy,y1,y2,y3⟩:=d4.wAt hx';have hs:=qPF d1 d2 d3 hy (fun j l hj hl=>creds w (by omega) j l hj ((d4.lAt _ _).symm.trans hl)) d5;rw[y2]at hs;obtain⟨f,T,f1,f2,f3,f4,f5⟩:=four w (by omega) ⟨1,w,0⟩ (by simp[qbz]) (by dsimp only;omega);obtain⟨z,hz,z1,z2,z3⟩:=f4.wAt hx';have hq:=qPC f1 hz (z2.trans hs) f5;rw[z1]at hq;obtain⟨u,T',u1,u2,u3,u4,u5⟩:=four w (by omega) ⟨2,w,0⟩ (by simp[qbz]) (by dsimp only;omega);obtain⟨v,hv,v1,v2,v3⟩:=u4.wAt hx';have hi:=qPD u1 hv (v2.trans hs) (v1.trans hq) u5;rw[v3]at hi;exact⟨hq,hs,hi⟩
 ·intro l hl;obtain⟨k,hk⟩:=List.getElem?_of_mem hl;have hkl:=lt_of hk;obtain⟨a,b,ha,hbb,e⟩:=qPH hn (k:=k) (by omega);obtain⟨p0,p1,_,p3,p4⟩:=qeB hn (inr a (by omega)) (inr b (by omega));have hl':lAt c (qaw c.graph a b)=some l:=by
   unfold lAt;rw[p0,zp p1,←e];simpa using hk
  by_cases hab:a=b
  ·subst hab;have hbad:=qcB.1 (qdb hok hl');have hto:(((qaw c.graph a a).toNat:Nat):Int)=a*c.graph.workers+a:=by rw[qhW hl',p0]
   exact hbad.2.2.2 (by rw[hto,p3,p4])
  ·exact (links a b (by omega) (by omega) hab l hl').1
 ·obtain⟨g1,g2⟩:=qkm (qbl hl).1;simp only[inR,zi]at g1 g2;obtain⟨i,rfl⟩:∃i:Nat,a=i:=⟨a.toNat,by omega⟩
  obtain⟨j,rfl⟩:∃j:Nat,b=j:=⟨b.toNat,by omega⟩
  exact (links i j (by omega) (by omega) (by omega) l hl).2
end Go.Proofs.YtdkobdhckkjmeaaGreat
namespace Go.Proofs.YtdkobdhckkjmeaaGreat
open Go.Sx Go.RowKit
structure Run (P:Par) (S:Int) (c:Cluster):Prop where
 all:AllInv S c
 of:P.Of c
theorem Run.step{P:Par}{S:Int}{c:Cluster}(h:Run P S c)(hS:S<200000)(p:Pick):Run P (S+1) (stepPick c p).1:=by
 refine⟨h.all.step hS p,?_⟩;rcases qfM c p with⟨_,h2⟩ | ⟨_,_,st⟩
 ·rw[h2];exact h.of
 ·exact h.of.step h.all.ok st (qnb c p).graph
theorem qur{c d:Cluster}{p:Pick}(st:Step c p d)(hk:5<p.kind):Same c d:=by
 cases st with
 | work x r q hk'=>omega
 | input x r t hk'=>omega
 | keep x r t hk'=>omega
 | send x r t l hk'=>omega
 | take l x hk'=>omega
 | credit l hk'=>omega
 | token t x x0 hk' hin h0 hd ht hx hdid=>
  rcases qcX c p.a t x with⟨_,k⟩ | ⟨_,_,⟨_,k⟩ | ⟨_,_,k⟩ | ⟨_,h0,_,k⟩ | ⟨_,_,_,k⟩⟩
  ·rw[k];exact .rfl
  ·rw[k];exact .set hx rfl rfl rfl rfl rfl rfl
  ·rw[k];exact .set hx rfl rfl rfl rfl rfl rfl
  ·rw[k];have hz:t.place=0:=by have:=(qaD hx).1;omega
   rw[hz]at hx;exact .set hx rfl rfl rfl rfl rfl rfl
  ·rw[k];exact⟨rfl,rfl,rfl,Same.rfl.w⟩
 | hear k n x hk' hn hd hx=>
  refine .set (y:=hears x n) hx rfl rfl rfl ?_ ?_ ?_<;>(unfold hears;split<;>rfl)
def qkA:List Pick→Bool
 | []=>true
 | p::l=>(if p.kind=4 then (match l with | q::_=>decide (q=⟨5,p.a,p.b⟩) | []=>false) else true)&&qkA l
theorem qnY{c:Cluster}(hn:1≤c.graph.workers∧c.graph.workers≤4):qkA (qaO c)=true∧(qaO c).length≤44:=by
 have h:c.graph.workers=1∨c.graph.workers=2∨c.graph.workers=3∨c.graph.workers=4:=by omega
 unfold qaO;rcases h with h | h | h | h<;>(rw[h];decide +kernel)
theorem qPI{c:Cluster}{i:Int}{l m:Link}(h:lAt c i=some l):lAt (setL c i m) i=some m:=by
 obtain⟨h0,_,h2⟩:=qbl h;unfold lAt setL;rw[zp h0];exact qcM h2
theorem qus{P:Par}:∀(l:List Pick) {S:Int} {c:Cluster},Run P S c→S+l.length≤200000→qkA l=true→
  phi P (qah c l).1≤phi P c∧(phi P (qah c l).1=phi P c→Same c (qah c l).1∧∀p∈l,p.kind≤5→Stuck c p)
 | [],S,c,h,hS,_=>⟨zO _,fun _=>⟨.rfl,fun p hp=>by cases hp⟩⟩
 | p::l,S,c,h,hS,hp=>by
  simp only[zq]at hS;simp only[qkA,zj]at hp;have h1:=h.step (by omega) p;obtain⟨i1,i2⟩:=qus l h1 (by omega) hp.2;simp only[qah];rcases qfM c p with⟨k1,k2⟩ | ⟨_,_,st⟩
  ·rw[k2]at i1 i2 ⊢;refine⟨i1,fun he=>?_⟩;obtain⟨j1,j2⟩:=i2 he;refine⟨j1,fun q hq hk=>?_⟩;rcases zL.1 hq with rfl | hq
   ·exact⟨c,S,h.all.ok,h.all.bound,by omega,.rfl,k1⟩
   ·exact j2 q hq hk
  ·have hph:=qtt h.of h.all.owns h.all.ok st;refine⟨by omega,fun he=>?_⟩;have hpk:¬(p.kind≤5∧p.kind≠4):=fun hq=>by rw[zp hq]at hph;omega
   rw[zo hpk]at hph;obtain⟨j1,j2⟩:=i2 (by omega);by_cases h4:p.kind=4
   ·exfalso;rw[zp h4]at hp;cases l with
    | nil=>cases hp.1
    | cons q l'=>
     have hq:q=⟨5,p.a,p.b⟩:=by simpa using hp.1
     obtain⟨d,T,d1,d2,d3,d4,d5⟩:=j2 q (zm ..) (by rw[hq];dsimp only;omega);subst hq;generalize (stepPick c p).1=c1 at*;cases st with
     | work x r q hk'=>omega
     | input x r t hk'=>omega
     | keep x r t hk'=>omega
     | send x r t l hk'=>omega
     | take l x hk' hab hl hx ht=>
      obtain⟨hlk,r,q,hq,e2,e1⟩:=qfK ht;have hb:=(qcn.1 hlk).2.2.1;simp only[inR,zi]at hb;have hl2:lAt (setW (setL c (qaw c.graph p.a p.b) (qaq l).1) p.b (received x (qaq l).2.1)) (qaw c.graph p.a p.b)=some (qaq l).1:=qPI hl;have h0:=qun d1 hab ((d4.lAt p.a p.b).trans hl2) d5;rw[e1]at h0;dsimp only at h0;omega
     | credit l hk'=>omega
     | token t x x0 hk'=>omega
     | hear k n x hk'=>omega
   ·have hk5:5<p.kind:=by omega
    have hs:=qur st hk5;refine⟨hs.trans j1,fun q hq hk=>?_⟩;rcases zL.1 hq with rfl | hq
    ·omega
    ·obtain⟨d,T,d1,d2,d3,d4,d5⟩:=j2 q hq hk;exact⟨d,T,d1,d2,d3,hs.trans d4,d5⟩
theorem qPJ{P:Par}{S:Int}{c:Cluster}(h:Run P S c)(hS:S+44≤200000)(hn:¬Still c):phi P (qa6 c).1<phi P c:=by
 obtain⟨a1,a2⟩:=qnY (qa8 (qaH.1 h.all.ok).1);obtain⟨h1,h2⟩:=qus (qaO c) h (by omega) a1;refine Classical.byContradiction fun hc=>?_
 have he:phi P (qah c (qaO c)).1=phi P c:=by
  unfold qa6 at hc;dsimp only at hc;omega
 exact hn (quq h.all.ok (h2 he).2)
theorem Run.run{P:Par}:∀(l:List Pick) {S:Int} {c:Cluster},Run P S c→S+l.length≤200000→Run P (S+l.length) (qah c l).1
 | [],S,c,h,_=>by simpa[qah]using h
 | p::l,S,c,h,hS=>by
  simp only[zq]at hS ⊢;have:=Run.run l (h.step (by omega) p) (by omega);simp only[qah];rw[show S+((l.length+1:Nat):Int)=S+1+l.length by omega];exact this
end Go.Proofs.YtdkobdhckkjmeaaGreat
namespace Go.Proofs.YtdkobdhckkjmeaaGreat
open Go.Sx Go.RowKit
def whead(e:Int)(c:Cluster)(k:Nat):Bool:=(c.workers.take k).all fun x=>!bE e x
def wtail(e:Int)(c:Cluster)(k:Nat):Bool:=(c.workers.drop k).all fun x=>!bE e x
def fine(e:Int)(c:Cluster)(t:Token):Bool:=!t.black&&whead e c (t.place.toNat+1)&&decide (preS e c (t.place.toNat+1)+t.sum=0)
def tauT(e:Int)(c:Cluster)(t:Token):Nat:=
 if t.going=true then (if fine e c t=true then t.place.toNat+1 else if wtail e c (t.place.toNat+1)=true then t.place.toNat+1+(c.workers.length+1) else t.place.toNat+1+(2*c.workers.length+2))
 else if wtail e c 1=true then c.workers.length+1 else 2*c.workers.length+2
def done0(e:Int)(c:Cluster):Bool:=match wAt c 0 with | some x=>qaA x e | none=>true
def tau(e:Int)(c:Cluster):Nat:=if done0 e c=true then 0 else match tAt c e with | some t=>tauT e c t | none=>0
def qdJ(c:Cluster):Nat:=3*(tau 0 c+tau 1 c+tau 2 c+tau 3 c)+c.news.length
theorem qut{α:Type}(f:α→Bool){x:α}:∀{xs:List α} {i k:Nat},((xs.take k).all f=true)→f x=true→((xs.set i x).take k).all f=true
 | [],_,_,_,_=>by simp
 | a::xs,0,0,_,_=>by simp
 | a::xs,i+1,0,_,_=>by simp
 | a::xs,0,k+1,h,hx=>by
  simp only[List.set_cons_zero,List.take_succ_cons,List.all_cons,zj]at h ⊢;exact⟨hx,h.2⟩
 | a::xs,i+1,k+1,h,hx=>by
  simp only[List.set_cons_succ,List.take_succ_cons,List.all_cons,zj]at h ⊢;exact⟨h.1,qut f h.2 hx⟩
theorem qnZ{α:Type}(f:α→Bool){x:α}:∀{xs:List α} {i k:Nat},((xs.drop k).all f=true)→f x=true→((xs.set i x).drop k).all f=true
 | [],_,_,_,_=>by simp
 | a::xs,0,0,h,hx=>by
  simp only[List.set_cons_zero,zck,List.all_cons,zj]at h ⊢;exact⟨hx,h.2⟩
 | a::xs,i+1,0,h,hx=>by
  simp only[List.set_cons_succ,zck,List.all_cons,zj]at h ⊢;refine⟨h.1,?_⟩;have:=qnZ f (xs:=xs) (i:=i) (k:=0) (by simpa using h.2) hx;simpa using this
 | a::xs,0,k+1,h,_=>by simpa using h
 | a::xs,i+1,k+1,h,hx=>by
  have:=qnZ f (xs:=xs) (i:=i) (k:=k) (by simpa using h) hx;simpa using this
theorem qcN{c:Cluster}{e:Int}{x:Worker}(h:wAt c 0=some x):done0 e c=qaA x e:=by
 unfold done0;rw[h]
theorem qPK{e:Int}{x:Worker}(hl:x.black.length=4)(he:0≤e∧e≤3):(!bE e (qaB x e))=true:=by
 unfold bE qaB;dsimp only;rw[qkd (by omega)];rfl
section
variable {e : Int} {c : Cluster} {t u : Token} {x : Worker}
theorem quu(hx:wAt c t.place=some x)(k:Nat):preS e (setW (setT c e u) t.place (qaB x e)) k=preS e c k:=by
 have:=qgI (sE e) (qaB x e) (k:=k) (qaD hx).2.2;rw[show sE e (qaB x e)=sE e x from rfl,Int.sub_self,ite_self,Int.add_zero]at this;exact this
end
theorem Still.quiet{c:Cluster}(h:Still c)(e:Int):quiet e c:=by
 refine⟨fun x hx=>?_,?_⟩
 ·obtain⟨h1,h2,h3⟩:=h.1 x hx;rw[qco,h1,h2,h3];exact⟨fun r hr=>(by cases hr),fun r hr=>(by cases hr),fun r hr=>(by cases hr)⟩
 ·unfold infl;rw[qfT (g:=fun _=>0) fun l hl=>by unfold qbp qa5;rw[h.2.1 l hl];rfl,qgW]
theorem qPL{S e:Int}{c:Cluster}{t:Token}{x x0:Worker}(h:AllInv S c)(hs:Still c)(he:0≤e∧e≤3)(h0:wAt c 0=some x0)(hd:qaA x0 e=false)(ht:tAt c e=some t)(hx:wAt c t.place=some x)
  (hdid:(tokenAt c e t x).2=true):tau e (tokenAt c e t x).1+1≤tau e c∧((tokenAt c e t x).1.news=c.news∨((tokenAt c e t x).1.news.length+1=c.news.length+c.workers.length∧done0 e (tokenAt c e t x).1=true)):=by
 obtain⟨x1,x2,x3⟩:=qaD hx;obtain⟨_,hrest,_⟩:=qdF.1 (qgE h.ok ht);have hb4:=(qh4 (qbu h.ok hx)).2.1;have hw:=qPK hb4 he;have total:preS e c c.workers.length=0:=by rw[(h.inv e he).total,(hs.quiet e).2];rfl
 have hc:tau e c=tauT e c t:=by
  unfold tau;rw[zo (by rw[qcN h0,hd];decide),ht]
 have hlen:∀u:Token,(setW (setT c e u) t.place (qaB x e)).workers.length=c.workers.length:=fun u=>zn
 have hd0:∀u:Token,tau e (setW (setT c e u) t.place (qaB x e))≤tauT e (setW (setT c e u) t.place (qaB x e)) u:=fun u=>by
  unfold tau;rw[show tAt (setW (setT c e u) t.place (qaB x e)) e=some u from qh5 ht];split
  ·exact Nat.zero_le _
  ·exact zO _
 rcases qcX c e t x with⟨k,_⟩ | ⟨_,hp,⟨hg,k⟩ | ⟨hg,hpos,k⟩ | ⟨hg,hpos,hb,k⟩ | ⟨hg,hpos,hb,k⟩⟩
 ·rw[hdid]at k;cases k
 ·
  rw[k];refine⟨?_,.inl rfl⟩;have hz:=hrest hg;refine zce (Nat.add_le_add_right (hd0 _) 1) ?_;rw[hc];unfold tauT;rw[hlen,hg];dsimp only;have hn1:((c.workers.length:Int)-1).toNat+1=c.workers.length:=by omega
  rw[hn1,zp (rfl:true=true),zo (show ¬(false=true) by decide)];have tl:wtail e (setW (setT c e ⟨true,(c.workers.length:Int)-1,0,false,x.caps.getD e.toNat false⟩) t.place (qaB x e)) c.workers.length=true:=by
   unfold wtail;rw[List.drop_of_length_le (by rw[hlen];exact zO _)];rfl
  rw[tl,zp (rfl:true=true)];by_cases hwt:wtail e c 1=true
  ·rw[zp hwt];have hf:fine e (setW (setT c e ⟨true,(c.workers.length:Int)-1,0,false,x.caps.getD e.toNat false⟩) t.place (qaB x e)) ⟨true,(c.workers.length:Int)-1,0,false,x.caps.getD e.toNat false⟩=true:=by
    unfold fine;dsimp only;rw[hn1,quu hx,total];have:whead e (setW (setT c e ⟨true,(c.workers.length:Int)-1,0,false,x.caps.getD e.toNat false⟩) t.place (qaB x e)) c.workers.length=true:=by
     unfold whead;rw[zbk (by rw[hlen];exact zO _)];change (c.workers.set t.place.toNat (qaB x e)).all _=true;rw[hz];unfold wtail at hwt;cases hcw:c.workers with
     | nil=>rw[hcw]at x2;simp at x2
     | cons y ys=>
      rw[hcw]at hwt;simp only[List.drop_succ_cons,zck]at hwt;simp only[Int.toNat_zero,List.set_cons_zero,List.all_cons,hw,hwt,Bool.and_self]
    rw[this];rfl
   rw[zp hf];exact zO _
  ·rw[zo hwt];split<;>omega
 ·
  rw[k];refine⟨?_,.inl rfl⟩;refine zce (Nat.add_le_add_right (hd0 _) 1) ?_;rw[hc];unfold tauT;rw[hlen,hg];dsimp only;have hn1:(t.place-1).toNat+1=t.place.toNat:=by omega
  rw[hn1,zp (rfl:true=true),zp (rfl:true=true)];by_cases hf:fine e c t=true
  ·rw[zp hf];have hf':fine e (setW (setT c e ⟨true,t.place-1,t.sum+x.sums.getD e.toNat 0,t.black||x.black.getD e.toNat false,t.capped||x.caps.getD e.toNat false⟩) t.place (qaB x e)) ⟨true,t.place-1,t.sum+x.sums.getD e.toNat 0,t.black||x.black.getD e.toNat false,t.capped||x.caps.getD e.toNat false⟩=true:=by
    unfold fine at hf ⊢;simp only[zj,zS,zi]at hf;obtain⟨⟨f1,f2⟩,f3⟩:=hf;dsimp only;rw[hn1,quu hx];rw[qkg x3]at f3;unfold whead at f2;rw[zbe,x3,zcp,List.all_append,zj]at f2;have hbx:x.black.getD e.toNat false=false:=by
     have:=f2.2;simp only[List.all_cons,List.all_nil,zcs,zS]at this;exact this
    have:whead e (setW (setT c e ⟨true,t.place-1,t.sum+x.sums.getD e.toNat 0,t.black||x.black.getD e.toNat false,t.capped||x.caps.getD e.toNat false⟩) t.place (qaB x e)) t.place.toNat=true:=by
     unfold whead;exact qut _ f2.1 hw
    rw[this,f1,hbx];have:preS e c t.place.toNat+(t.sum+x.sums.getD e.toNat 0)=0:=by
     unfold sE at f3;omega
    rw[zap this];rfl
   rw[zp hf'];omega
  ·rw[zo hf];by_cases hwt:wtail e c (t.place.toNat+1)=true
   ·rw[zp hwt];have:wtail e (setW (setT c e ⟨true,t.place-1,t.sum+x.sums.getD e.toNat 0,t.black||x.black.getD e.toNat false,t.capped||x.caps.getD e.toNat false⟩) t.place (qaB x e)) t.place.toNat=true:=by
     unfold wtail;change ((c.workers.set t.place.toNat (qaB x e)).drop t.place.toNat).all _=true;have hl:t.place.toNat<(c.workers.set t.place.toNat (qaB x e)).length:=by rw[zn];exact x2
     rw[List.drop_eq_getElem_cons hl,List.all_cons,List.getElem_set_self,hw,zbl];exact qnZ _ hwt hw
    rw[this,zp (rfl:true=true)];split<;>omega
   ·rw[zo hwt];split
    ·omega
    ·split<;>omega
 ·
  rw[k];have hz:t.place=0:=by omega
  rw[hz]at x3;have hdn:done0 e (setN (setW (setT c e ⟨false,t.place,t.sum,t.black,t.capped⟩) 0 (told x e (t.capped||x.caps.getD e.toNat false))) (c.news++qaR (c.workers.length-1) e (t.capped||x.caps.getD e.toNat false)))=true:=by
   unfold done0;rw[show wAt (setN (setW (setT c e ⟨false,t.place,t.sum,t.black,t.capped⟩) 0 (told x e (t.capped||x.caps.getD e.toNat false))) (c.news++qaR (c.workers.length-1) e (t.capped||x.caps.getD e.toNat false))) 0=some (told x e (t.capped||x.caps.getD e.toNat false)) from qcM x3];dsimp only;rw[qeE];simp
  refine⟨?_,.inr ⟨?_,hdn⟩⟩
  ·unfold tau;rw[zp hdn];change 0+1≤tau e c;rw[hc];unfold tauT;rw[zp hg];split
   ·omega
   ·split<;>omega
  ·simp only[setN,zab,qaR,zb,zct];omega
 ·
  rw[k];refine⟨?_,.inl rfl⟩;have hz:t.place=0:=by omega
  rw[hz]at x3;have hnf:fine e c t=false:=by
   rw[zQ];intro hf;unfold fine at hf;simp only[zj,zS,zi]at hf;obtain⟨⟨f1,f2⟩,f3⟩:=hf;rw[hz]at f2 f3;have hs:preS e c 1=sE e x:=by rw[qkg (k:=0) x3];simp[preS]
   refine hb ⟨f1,?_,?_⟩
   ·unfold whead at f2;change (c.workers.take 1).all _=true at f2;rw[zbe,show c.workers[0]?=some x from x3,zcp,List.all_append,zj]at f2;simpa[bE]using f2.2
   ·change preS e c 1+t.sum=0 at f3;rw[hs]at f3;unfold sE at f3;omega
  have hdd:tau e (setT c e ⟨false,t.place,t.sum,t.black,t.capped⟩)≤tauT e (setT c e ⟨false,t.place,t.sum,t.black,t.capped⟩) ⟨false,t.place,t.sum,t.black,t.capped⟩:=by
   unfold tau;rw[show tAt (setT c e ⟨false,t.place,t.sum,t.black,t.capped⟩) e=some ⟨false,t.place,t.sum,t.black,t.capped⟩ from qh5 ht];split
   ·exact Nat.zero_le _
   ·exact zO _
  refine zce (Nat.add_le_add_right hdd 1) ?_;rw[hc];unfold tauT;rw[hg,hnf];dsimp only;rw[zo (show ¬(false=true) by decide),zp (rfl:true=true),zo (show ¬(false=true) by decide),hz];change (if wtail e c 1=true then _ else _)+1≤(if wtail e c 1=true then _ else _);by_cases hwt:wtail e c 1=true
  ·rw[zp hwt,zp hwt];change c.workers.length+1+1≤0+1+(c.workers.length+1);omega
  ·rw[zo hwt,zo hwt];change 2*c.workers.length+2+1≤0+1+(2*c.workers.length+2);omega
theorem qir{e i:Int}{c d:Cluster}{x y:Worker}(hx:wAt c i=some x)(hw:d.workers=c.workers.set i.toNat y)(ht:tAt d e=tAt c e)(hb:bE e y=bE e x)(hs:sE e y=sE e x)(hd:qaA x e=true→qaA y e=true):tau e d≤tau e c:=by
 obtain⟨x1,x2,x3⟩:=qaD hx;have hlen:d.workers.length=c.workers.length:=by rw[hw,zn]
 have hmap:∀{β:Type} (f:Worker→β),f y=f x→d.workers.map f=c.workers.map f:=fun f hf=>by
  rw[hw,zau,hf];exact qh3 (by rw[zr,x3];rfl)
 have hmb:=hmap (fun z=>!bE e z) (by rw[hb]);have hms:=hmap (sE e) hs;have e1:∀k,wtail e d k=wtail e c k:=fun k=>by
  have:∀ws:List Worker,(ws.drop k).all (fun z=>!bE e z)=((ws.map fun z=>!bE e z).drop k).all id:=fun ws=>by
   rw[←List.map_drop,List.all_map];rfl
  unfold wtail;rw[this,this,hmb]
 have e2:∀k,whead e d k=whead e c k:=fun k=>by
  have:∀ws:List Worker,(ws.take k).all (fun z=>!bE e z)=((ws.map fun z=>!bE e z).take k).all id:=fun ws=>by
   rw[←zcr,List.all_map];rfl
  unfold whead;rw[this,this,hmb]
 have e3:∀k,preS e d k=preS e c k:=fun k=>by
  unfold preS;rw[zcr,zcr,hms]
 have e4:∀t,tauT e d t=tauT e c t:=fun t=>by
  unfold tauT fine;rw[hlen,e1,e1,e2,e3]
 unfold tau;by_cases hdd:done0 e d=true
 ·rw[zp hdd];exact Nat.zero_le _
 ·have hdc:¬done0 e c=true:=fun hc=>hdd (by
   unfold done0 wAt at hc ⊢;rw[zp (by decide),hw];rw[zp (by decide)]at hc;by_cases hi:i.toNat=0
   ·rw[hi]at x3 ⊢;rw[show (0:Int).toNat=0 from rfl]at hc ⊢;rw[qcM x3];rw[x3]at hc;exact hd hc
   ·rw[zad,zo (show ¬i.toNat=(0:Int).toNat from hi)];exact hc)
  rw[zo hdd,zo hdc,ht];cases tAt c e with
  | none=>exact zO _
  | some t=>dsimp only;rw[e4];exact zO _
theorem qPM{e f:Int}{c:Cluster}{t:Token}{x:Worker}(he:0≤e)(hf:0≤f)(hne:f≠e)(hx:wAt c t.place=some x):tau e (tokenAt c f t x).1≤tau e c:=by
 have white:bE e (qaB x f)=bE e x:=by
  unfold bE qaB;exact qfN (qfO hf he hne)
 rcases qcX c f t x with⟨_,k⟩ | ⟨_,_,⟨_,k⟩ | ⟨_,_,k⟩ | ⟨_,h0,_,k⟩ | ⟨_,_,_,k⟩⟩
 ·rw[k];exact zO _
 ·rw[k];exact qir hx rfl (qeF he hf hne) white rfl id
 ·rw[k];exact qir hx rfl (qeF he hf hne) white rfl id
 ·rw[k];have hz:t.place=0:=by have:=(qaD hx).1;omega
  rw[hz]at hx;exact qir hx rfl (qeF he hf hne) rfl rfl fun q=>by rw[qeE,q,Bool.true_or]
 ·rw[k];exact qir (y:=x) hx (qh3 (qaD hx).2.2).symm (qeF he hf hne) rfl rfl id
theorem qPN{S:Int}{c d:Cluster}{p:Pick}(h:AllInv S c)(hs:Still c)(hn:c.workers.length≤3)(st:Step c p d):Still d∧qdJ d<qdJ c:=by
 have still:5<p.kind→Still d:=fun hk=>by
  have sm:=qur st hk;refine⟨fun x hx=>?_,fun l hl=>hs.2.1 l (sm.links▸hl),fun a b l hab hl=>hs.2.2 a b l hab ((sm.lAt a b).symm.trans hl)⟩;obtain⟨i,hi⟩:=List.getElem?_of_mem hx;obtain⟨z,hz⟩:=qal (xs:=c.workers) (i:=i) (by have:=lt_of hi;rw[sm.len]at this;exact this);obtain⟨y,hy,y1,y2,y3⟩:=sm.w i z hz;rw[hi]at hy;cases hy;rw[y1,y2,y3];exact hs.1 z (qag hz)
 cases st with
 | work x r q hk hx hs' hq=>
  have:=(hs.1 x (qag (qaD hx).2.2)).1;rw[hq]at this;cases this
 | input x r t hk hx hs' hq hi=>
  have:=(hs.1 x (qag (qaD hx).2.2)).2.2;rw[hi]at this;cases this
 | keep x r t hk hx hs' ho=>
  have:=(hs.1 x (qag (qaD hx).2.2)).2.1;rw[hs']at this;cases this
 | send x r t l hk hx hs' ho hl hsend=>
  have:=(hs.1 x (qag (qaD hx).2.2)).2.1;rw[hs']at this;cases this
 | take l x hk hab hl hx ht=>
  obtain⟨_,r,q,hq,_⟩:=qfK ht;have:=hs.2.1 l (qag (qbl hl).2.2);rw[hq]at this;cases this
 | credit l hk hab hl hc=>
  rcases qfL l with⟨k,_⟩ | ⟨_,_,hb,_⟩
  ·rw[hc]at k;cases k
  exact absurd (hs.2.2 _ _ l hab hl) hb
 | token t x x0 hk hin h0 hd ht hx hdid=>
  refine⟨still (by omega),?_⟩;simp only[inR,zi]at hin;obtain⟨k1,k2⟩:=qPL h hs hin h0 hd ht hx hdid;have oth:∀e:Int,0≤e→p.a≠e→tau e (tokenAt c p.a t x).1≤tau e c:=fun e he hne=>qPM he hin.1 hne hx
  have hcase:p.a=0∨p.a=1∨p.a=2∨p.a=3:=by omega
  have hl:(tokenAt c p.a t x).1.news.length≤c.news.length+2:=by
   rcases k2 with k2 | ⟨k2,_⟩
   ·rw[k2];omega
   ·omega
  unfold qdJ;rcases hcase with h1 | h1 | h1 | h1
  ·have o1:=oth 1 (by decide) (by omega);have o2:=oth 2 (by decide) (by omega);have o3:=oth 3 (by decide) (by omega);rw[h1]at k1 o1 o2 o3 hl ⊢;omega
  ·have o1:=oth 0 (by decide) (by omega);have o2:=oth 2 (by decide) (by omega);have o3:=oth 3 (by decide) (by omega);rw[h1]at k1 o1 o2 o3 hl ⊢;omega
  ·have o1:=oth 0 (by decide) (by omega);have o2:=oth 1 (by decide) (by omega);have o3:=oth 3 (by decide) (by omega);rw[h1]at k1 o1 o2 o3 hl ⊢;omega
  ·have o1:=oth 0 (by decide) (by omega);have o2:=oth 1 (by decide) (by omega);have o3:=oth 2 (by decide) (by omega);rw[h1]at k1 o1 o2 o3 hl ⊢;omega
 | hear k n x hk hn' hd hx=>
  refine⟨still (by omega),?_⟩;obtain⟨s1,s2,_⟩:sE 0 (hears x n)=sE 0 x∧bE 0 (hears x n)=bE 0 x∧cE 0 (hears x n)=cE 0 x:=qkf;have o:∀e:Int,tau e (setN (setW c p.a (hears x n)) (cutAt c.news k))≤tau e c:=fun e=>by
   obtain⟨s1,s2,_⟩:=qkf (x:=x) (n:=n) (e:=e);exact qir (y:=hears x n) hx rfl rfl s2 s1 fun q=>by rw[qke,q,Bool.true_or]
  have hl:(cutAt c.news k).length+1=c.news.length:=by
   have:=lt_of hn';simp only[cutAt,zab,zay,List.length_drop];omega
  have o0:=o 0;have o1:=o 1;have o2:=o 2;have o3:=o 3;unfold qdJ;change 3*_+(cutAt c.news k).length<_;omega
end Go.Proofs.YtdkobdhckkjmeaaGreat
namespace Go.Proofs.YtdkobdhckkjmeaaGreat
open Go.Sx Go.RowKit
structure Fin (e:Int) (c:Cluster):Prop where
 first:done0 e c=false→toldW c e=false∧toldN c e=false
 reach:done0 e c=true→∀(i:Nat) x,0<i→c.workers[i]?=some x→qaA x e=true∨∃n∈c.news,n.dest=i∧n.epoch=e
 flag:∃b:Bool,(∀x∈c.workers,∀d∈x.dones,d.epoch=e→d.capped=b)∧(∀n∈c.news,n.epoch=e→n.capped=b)∧(done0 e c=true→b=false→∀x∈c.workers,cE e x=false)
theorem w0_of{c:Cluster}{x:Worker}(h:wAt c 0=some x):c.workers[0]?=some x:=(qaD h).2.2
theorem qfW{e i:Int}{c d:Cluster}{x y:Worker}(h:Fin e c)(iv:Inv e c)(hx:wAt c i=some x)(hw:d.workers=c.workers.set i.toNat y)(hn:d.news=c.news)(hd:y.dones=x.dones)(hc:qbF x e=true→cE e y=cE e x):Fin e d:=by
 obtain⟨i0,i1,i2⟩:=qaD hx;have hdn:∀f,qaA y f=qaA x f:=fun f=>by unfold qaA;rw[hd]
 have hd0:done0 e d=done0 e c:=by
  unfold done0 wAt;rw[zp (by decide),zp (by decide),hw];by_cases hi:i.toNat=0
  ·rw[hi]at i2 ⊢;rw[show (0:Int).toNat=0 from rfl,qcM i2,i2];exact hdn e
  ·rw[show (0:Int).toNat=0 from rfl,zad,zo hi]
 refine⟨fun hf=>?_,fun hf j z hj hz=>?_,?_⟩
 ·rw[hd0]at hf;obtain⟨t1,t2⟩:=h.first hf
  refine⟨?_,by unfold toldN;rw[hn];exact t2⟩;unfold toldW at t1 ⊢;rw[zP]at t1 ⊢;intro z hz;rw[hw]at hz;rcases zbf hz with hz | rfl
  ·exact t1 z hz
  ·rw[hdn];exact t1 x (qag i2)
 ·rw[hd0]at hf;rw[hn];rw[hw]at hz;rcases qeD hz with⟨rfl,rfl⟩ | ⟨_,hz⟩
  ·rw[hdn];exact h.reach hf _ x hj i2
  ·exact h.reach hf j z hj hz
 ·obtain⟨b,b1,b2,b3⟩:=h.flag;refine⟨b,fun z hz=>?_,by rw[hn];exact b2,fun hf hb z hz=>?_⟩
  ·rw[hw]at hz;rcases zbf hz with hz | rfl
   ·exact b1 z hz
   ·rw[hd];exact b1 x (qag i2)
  ·rw[hd0]at hf;rw[hw]at hz;rcases zbf hz with hz | rfl
   ·exact b3 hf hb z hz
   ·have hq:=(iv.tells (by
     have hs:done0 e c=true:=hf;obtain⟨x0,hx0⟩:∃x0,wAt c 0=some x0:=qcC (by decide) (by omega);rw[qcN hx0]at hs;rw[zbi];exact .inl (zcj.2 ⟨x0,qag (w0_of hx0),hs⟩))).1 x (qag i2)
    rw[hc hq];exact b3 hf hb x (qag i2)
theorem Fin.step{e:Int}{c d:Cluster}{p:Pick}(h:Fin e c)(iv:Inv e c)(he:0≤e∧e≤3)(hok:qai c=true)(st:Step c p d):Fin e d:=by
 cases st with
 | work x r q hk hx hs hq=>
  refine qfW h iv hx rfl rfl rfl fun k=>?_
  obtain⟨k1,k2,k3⟩:=qco.1 k;rw[hq]at k2;have kr:=k2 r (zm ..);have hr:=qnd (qbd.1 (qbu hok hx)).1 (r:=r) (by rw[hq];exact zm ..);unfold cE;dsimp only;split
  ·exact qfN (qfO hr.1 he.1 kr)
  ·rfl
 | input x r t hk hx hs hq hi=>exact qfW h iv hx rfl rfl rfl fun _=>rfl
 | keep x r t hk hx hs ho=>exact qfW h iv hx rfl rfl rfl fun _=>rfl
 | send x r t l hk hx hs ho hl hsend=>exact qfW h iv hx rfl rfl rfl fun _=>rfl
 | take l x hk hab hl hx ht=>exact qfW h iv hx rfl rfl rfl fun _=>rfl
 | credit l hk hab hl hc=>exact⟨h.first,h.reach,h.flag⟩
 | token t x x0 hk hin h0 hd ht hx hdid=>
  rcases qcX c p.a t x with⟨_,k⟩ | ⟨_,hp,⟨_,k⟩ | ⟨_,_,k⟩ | ⟨hg,hpos,hb,k⟩ | ⟨_,_,_,k⟩⟩
  ·rw[k];exact h
  ·rw[k];exact qfW h iv hx rfl rfl rfl fun _=>rfl
  ·rw[k];exact qfW h iv hx rfl rfl rfl fun _=>rfl
  ·rw[k];have hz:t.place=0:=by have:=(qaD hx).1;omega
   rw[hz,h0]at hx;obtain rfl:x0=x:=zx hx;obtain⟨i0,i1,i2⟩:=qaD h0;simp only[inR,zi]at hin;have hd0:done0 e (setN (setW (setT c p.a ⟨false,t.place,t.sum,t.black,t.capped⟩) 0 (told x0 p.a (t.capped||x0.caps.getD p.a.toNat false))) (c.news++qaR (c.workers.length-1) p.a (t.capped||x0.caps.getD p.a.toNat false)))=(qaA x0 e||p.a==e):=by
    unfold done0;rw[show wAt (setN (setW (setT c p.a ⟨false,t.place,t.sum,t.black,t.capped⟩) 0 (told x0 p.a (t.capped||x0.caps.getD p.a.toNat false))) (c.news++qaR (c.workers.length-1) p.a (t.capped||x0.caps.getD p.a.toNat false))) 0=some (told x0 p.a (t.capped||x0.caps.getD p.a.toNat false)) from qcM i2];exact qeE
   by_cases hpe:p.a=e
   ·subst hpe;have hf0:done0 p.a c=false:=by rw[qcN h0];exact hd
    obtain⟨t1,t2⟩:=h.first hf0
    obtain⟨_,hcap⟩:=iv.over ht hg hpos (by rw[hz];exact h0) hp hb;refine⟨fun hf=>?_,fun _ j z hj hz'=>?_,⟨t.capped||cE p.a x0,fun z hz' d hdz hde=>?_,fun n hnn hne=>?_,fun _ hb' z hz'=>?_⟩⟩
    ·rw[hd0]at hf;simp at hf
    ·right;have hjl:=lt_of hz';rw[show (setN (setW (setT c p.a ⟨false,t.place,t.sum,t.black,t.capped⟩) 0 (told x0 p.a (t.capped||x0.caps.getD p.a.toNat false))) (c.news++qaR (c.workers.length-1) p.a (t.capped||x0.caps.getD p.a.toNat false))).workers.length=c.workers.length from zn]at hjl;refine⟨⟨((j-1:Nat):Int)+1,p.a,t.capped||x0.caps.getD p.a.toNat false⟩,zJ _ (zbm.2 ⟨j-1,List.mem_range.2 (by omega),rfl⟩),?_,rfl⟩;change ((j-1:Nat):Int)+1=(j:Int);omega
    ·rcases zbf hz' with hz' | rfl
     ·exfalso;unfold toldW at t1;rw[zP]at t1;exact t1 z hz' (zcj.2 ⟨d,hdz,by simpa using hde⟩)
     ·rcases zaz.1 hdz with hdz | hdz
      ·exfalso;rw[zQ]at hd;exact hd (zcj.2 ⟨d,hdz,by simpa using hde⟩)
      ·obtain rfl:d=⟨p.a,t.capped||x0.caps.getD p.a.toNat false⟩:=by simpa using hdz
       rfl
    ·rcases zaz.1 hnn with hnn | hnn
     ·exfalso;unfold toldN at t2;rw[zP]at t2;exact t2 n hnn (by simpa using hne)
     ·obtain⟨_,_,rfl⟩:=zbm.1 hnn;rfl
    ·rcases zbf hz' with hz' | rfl
     ·exact hcap hb' z hz'
     ·exact hcap hb' x0 (qag i2)
   ·have hpe':(p.a==e)=false:=by simpa using hpe
    rw[hpe',Bool.or_false]at hd0;have hd0':done0 e c=qaA x0 e:=qcN h0;have hdn:qaA (told x0 p.a (t.capped||x0.caps.getD p.a.toNat false)) e=qaA x0 e:=by rw[qeE,hpe',Bool.or_false]
    refine⟨fun hf=>?_,fun hf j z hj hz'=>?_,?_⟩
    ·rw[hd0,←hd0']at hf;obtain⟨t1,t2⟩:=h.first hf
     refine⟨?_,(qsB hpe).trans t2⟩;unfold toldW at t1 ⊢;rw[zP]at t1 ⊢;intro z hz';rcases zbf hz' with hz' | rfl
     ·exact t1 z hz'
     ·rw[hdn];exact t1 x0 (qag i2)
    ·rw[hd0,←hd0']at hf;rcases qeD hz' with⟨rfl,rfl⟩ | ⟨_,hz'⟩
     ·exact absurd hj (by decide)
     ·rcases h.reach hf j z hj hz' with r1 | ⟨n,r1,r2⟩
      ·exact .inl r1
      ·exact .inr ⟨n,zI _ r1,r2⟩
    ·obtain⟨b,b1,b2,b3⟩:=h.flag;refine⟨b,fun z hz' d hdz hde=>?_,fun n hnn hne=>?_,fun hf hb' z hz'=>?_⟩
     ·rcases zbf hz' with hz' | rfl
      ·exact b1 z hz' d hdz hde
      ·rcases zaz.1 hdz with hdz | hdz
       ·exact b1 x0 (qag i2) d hdz hde
       ·obtain rfl:d=⟨p.a,t.capped||x0.caps.getD p.a.toNat false⟩:=by simpa using hdz
        exact absurd hde hpe
     ·rcases zaz.1 hnn with hnn | hnn
      ·exact b2 n hnn hne
      ·obtain⟨_,_,rfl⟩:=zbm.1 hnn;exact absurd hne hpe
     ·rw[hd0,←hd0']at hf;rcases zbf hz' with hz' | rfl
      ·exact b3 hf hb' z hz'
      ·exact b3 hf hb' x0 (qag i2)
  ·rw[k];exact⟨h.first,h.reach,h.flag⟩
 | hear k n x hk hn hd hx=>
  obtain⟨i0,i1,i2⟩:=qaD hx;have hnm:n∈c.news:=qag hn;have hcut:∀m∈cutAt c.news k,m∈c.news:=fun m hm=>by
   unfold cutAt at hm;rcases zaz.1 hm with hm | hm
   ·exact zbh hm
   ·exact zbn hm
  have hcut':∀m∈c.news,m∈cutAt c.news k∨m=n:=fun m hm=>by
   obtain⟨j,hj⟩:=List.getElem?_of_mem hm;unfold cutAt;by_cases h1:j<k
   ·exact .inl (zI _ (qag (i:=j) (by rw[zF,zp h1];exact hj)))
   ·by_cases h2:j=k
    ·subst h2;rw[hn]at hj;exact .inr (zx hj).symm
    ·refine .inl (zJ _ (qag (i:=j-(k+1)) ?_));rw[zA,show k+1+(j-(k+1))=j by omega];exact hj
  have hdn:∀f,qaA (hears x n) f=(qaA x f||n.epoch==f):=fun f=>qke
  have hd0:done0 e (setN (setW c p.a (hears x n)) (cutAt c.news k))=true→done0 e c=true:=by
   intro hf;cases hc:done0 e c with
   | true=>rfl
   | false=>
    obtain⟨t1,t2⟩:=h.first hc
    exfalso;have tn:∀m∈c.news,m.epoch≠e:=fun m hm hme=>by
     unfold toldN at t2;rw[zP]at t2;exact t2 m hm (by simpa using hme)
    have tw:∀z∈c.workers,qaA z e=false:=fun z hz=>by
     unfold toldW at t1;rw[zP]at t1;simpa using t1 z hz
    obtain⟨x0,hx0⟩:∃x0,wAt (setN (setW c p.a (hears x n)) (cutAt c.news k)) 0=some x0:=qcC (by decide) (by rw[show (setN (setW c p.a (hears x n)) (cutAt c.news k)).workers.length=c.workers.length from zn];omega);rw[qcN hx0]at hf;have hm:=qag (w0_of hx0);rcases zbf hm with hm | rfl
    ·rw[tw x0 hm]at hf;cases hf
    ·rw[hdn,tw x (qag i2),zal]at hf;exact tn n hnm (by simpa using hf)
  have hd1:done0 e c=true→done0 e (setN (setW c p.a (hears x n)) (cutAt c.news k))=true:=by
   intro hc;obtain⟨x0,hx0⟩:∃x0,wAt c 0=some x0:=qcC (by decide) (by omega);rw[qcN hx0]at hc;by_cases hi:p.a.toNat=0
   ·have hxx:x=x0:=by
     have:=w0_of hx0;rw[hi]at i2;rw[i2]at this;exact zx this
    subst hxx;rw[qcN (x:=hears x n) (show wAt (setN (setW c p.a (hears x n)) (cutAt c.news k)) 0=some (hears x n) by
     unfold wAt;rw[zp (by decide)];change (c.workers.set p.a.toNat (hears x n))[0]?=_;rw[hi]at i2 ⊢;exact qcM i2),hdn,hc,Bool.true_or]
   ·rw[qcN (x:=x0) (show wAt (setN (setW c p.a (hears x n)) (cutAt c.news k)) 0=some x0 by
     unfold wAt;rw[zp (by decide)];exact qh2 (w0_of hx0) (fun q=>hi q.symm))]
    exact hc
  refine⟨fun hf=>?_,fun hf j z hj hz=>?_,?_⟩
  ·have hc:done0 e c=false:=by
    rw[zQ];intro hc;rw[hd1 hc]at hf;cases hf
   obtain⟨t1,t2⟩:=h.first hc
   unfold toldW at t1 ⊢;unfold toldN at t2 ⊢;rw[zP]at t1 t2 ⊢;refine⟨fun z hz=>?_,?_⟩
   ·rcases zbf hz with hz | rfl
    ·exact t1 z hz
    ·rw[hdn,zbi];exact fun q=>q.elim (t1 x (qag i2)) (t2 n hnm)
   ·rw[zP];exact fun m hm=>t2 m (hcut m hm)
  ·have hc:=hd0 hf;rcases qeD hz with⟨rfl,rfl⟩ | ⟨hne,hz⟩
   ·rw[hdn];rcases h.reach hc _ x hj i2 with r1 | ⟨m,r1,r2,r3⟩
    ·exact .inl (by rw[r1,Bool.true_or])
    ·rcases hcut' m r1 with r1 | rfl
     ·exact .inr ⟨m,r1,r2,r3⟩
     ·exact .inl (by rw[show (m.epoch==e)=true by simpa using r3,Bool.or_true])
   ·rcases h.reach hc j z hj hz with r1 | ⟨m,r1,r2,r3⟩
    ·exact .inl r1
    ·rcases hcut' m r1 with r1 | rfl
     ·exact .inr ⟨m,r1,r2,r3⟩
     ·exfalso;rw[hd]at r2;omega
  ·obtain⟨b,b1,b2,b3⟩:=h.flag;refine⟨b,fun z hz d hdz hde=>?_,fun m hm=>b2 m (hcut m hm),fun hf hb z hz=>?_⟩
   ·rcases zbf hz with hz | rfl
    ·exact b1 z hz d hdz hde
    ·unfold hears at hdz;split at hdz
     ·exact b1 x (qag i2) d hdz hde
     ·rcases zaz.1 hdz with hdz | hdz
      ·exact b1 x (qag i2) d hdz hde
      ·obtain rfl:d=⟨n.epoch,n.capped⟩:=by simpa using hdz
       exact b2 n hnm hde
   ·rcases zbf hz with hz | rfl
    ·exact b3 (hd0 hf) hb z hz
    ·rw[(qkf (x:=x) (n:=n) (e:=e)).2.2];exact b3 (hd0 hf) hb x (qag i2)
end Go.Proofs.YtdkobdhckkjmeaaGreat
