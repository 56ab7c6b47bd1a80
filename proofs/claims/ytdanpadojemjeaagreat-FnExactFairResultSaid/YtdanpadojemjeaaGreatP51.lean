/- What every step leaves: the graph, and what the links have received; a run of picks. -/
import Derived.Test.YtdanpadojemjeaaGreatP28
import Derived.Test.YtdanpadojemjeaaGreatP46
import Derived.Test.YtdanpadojemjeaaGreatP7
import Derived.Test.YtdanpadojemjeaaGreatGX
import Derived.Test.YtdanpadojemjeaaGreatGW
set_option linter.unusedVariables false
set_option linter.unusedSimpArgs false
namespace Go.Proofs.YtdanpadojemjeaaGreat
open Go.Sx Go.RowKit Go.Proofs.Tryz
theorem qKH(l:Link)(r:Record)(h:l.got≤9223372036854775807):(qaD l r).1.got≤9223372036854775807:=by
 unfold qaD
 split<;>exact h
theorem qKI(l:Link)(h:l.got≤9223372036854775807):(qa2 l).1.got≤9223372036854775807:=by
 unfold qa2
 split<;>exact h
theorem qKJ(l:Link)(h:l.got≤9223372036854775807):(qav l).1.got≤9223372036854775807:=by
 unfold qav
 split
 ·rename_i hk
  obtain⟨_,_,_,_,k5,_,k7,_⟩:=qed.1 hk
  simp only[inR,zi]at k5
  split
  ·exact h
  ·dsimp only;omega
 ·exact h
theorem GotLe.setL{c:Cluster}{i:Int}{l:Link}(h:GotLe c)(hl:l.got≤9223372036854775807):GotLe (setL c i l):=by
 intro x hx
 rcases zbf hx with h1 | rfl
 ·exact h x h1
 ·exact hl
theorem GotLe.at{c:Cluster}{i:Int}{x:Link}(h:lAt c i=some x)(hw:GotLe c):x.got≤9223372036854775807:=hw _ (qar (qd8 h).2.2)
structure Kept' (c d:Cluster):Prop where
 graph:d.graph=c.graph
 got:GotLe c→GotLe d
 wlen:d.workers.length=c.workers.length
theorem Kept'.rfl{c:Cluster}:Kept' c c:=⟨Eq.refl _,id,Eq.refl _⟩
theorem Kept'.links{c d:Cluster}(h1:d.graph=c.graph)(h2:d.links=c.links)(h3:d.workers.length=c.workers.length:=by simp[setW,setN,setT,setL,told,qbZ]):Kept' c d:=⟨h1,fun h x hx=>h x (h2▸hx),h3⟩
theorem qKK(c:Cluster)(e:Int)(t:Token)(x:Worker):Kept' c (qaE c e t x).1:=by
 unfold qaE
 split
 ·split
  ·exact .links rfl rfl
  ·split
   ·split
    ·exact .links rfl rfl
    ·exact .rfl
   ·split
    ·exact .links rfl rfl
    ·exact .links rfl rfl
 ·exact .rfl
theorem qKL(c:Cluster)(p:Pick):Kept' c (stepPick c p).1:=by
 unfold stepPick
 split
 ·unfold qbf
  split
  ·split
   ·exact .links rfl rfl
   ·exact .rfl
  ·exact .rfl
 split
 ·unfold qbg
  split
  ·split
   ·exact .links rfl rfl
   ·exact .rfl
  ·exact .rfl
 split
 ·unfold qbh
  split
  ·split
   ·split
    ·unfold qff
     split
     ·exact .links rfl rfl
     ·split
      ·rename_i l hl
       split
       ·exact⟨rfl,fun h=>GotLe.setL h (qKH l _ (GotLe.at hl h)),by simp[setW,setL]⟩
       ·exact .rfl
      ·exact .rfl
    ·exact .rfl
   ·exact .rfl
  ·exact .rfl
 split
 ·unfold qbr
  split
  ·split
   ·rename_i l x hl hx
    split
    ·exact⟨rfl,fun h=>GotLe.setL h (qKJ l (GotLe.at hl h)),by simp[setW,setL]⟩
    ·exact .rfl
   ·exact .rfl
  ·exact .rfl
 split
 ·unfold qbi
  split
  ·split
   ·rename_i l hl
    exact⟨rfl,fun h=>GotLe.setL h (qKI l (GotLe.at hl h)),by simp[setW,setL]⟩
   ·exact .rfl
  ·exact .rfl
 split
 ·unfold qba
  split
  ·split
   ·split
    ·exact .rfl
    ·split
     ·exact qKK c _ _ _
     ·exact .rfl
   ·exact .rfl
  ·exact .rfl
 split
 ·unfold qbs
  split
  ·split
   ·split
    ·exact .links rfl rfl
    ·exact .rfl
   ·exact .rfl
  ·exact .rfl
 ·exact .rfl
theorem qhg{α:Type}{f:α→List D}{xs:List α}{a:α}:(xs++[a]).map f=xs.map f++[f a]:=by simp
def qaw:Cluster→List Pick→Cluster×List Bool
 | c,[]=>(c,[])
 | c,p::l=>((qaw (stepPick c p).1 l).1,(stepPick c p).2::(qaw (stepPick c p).1 l).2)
theorem qqQ(p:Pick):∀(l:List Pick) (c:Cluster),qaw c (l++[p])=((stepPick (qaw c l).1 p).1,(qaw c l).2++[(stepPick (qaw c l).1 p).2])
 | [],c=>rfl
 | q::l,c=>by
  have ih:=qqQ p l (stepPick c q).1
  simp only[List.cons_append,qaw,ih]
theorem qqR{l:List Pick}{i:Nat}{p:Pick}(c:Cluster)(h:l[i]?=some p):qaw c (l.take (i+1))=((stepPick (qaw c (l.take i)).1 p).1,(qaw c (l.take i)).2++[(stepPick (qaw c (l.take i)).1 p).2]):=by
 rw[zbe,h,zcp,qqQ]
theorem qiQ:∀(l:List Pick) (c:Cluster),(qaw c l).2.length=l.length
 | [],_=>rfl
 | q::l,c=>by simp only[qaw,zq,qiQ l]
theorem qlJ:∀(l:List Pick) (c:Cluster),(qaw c l).1.sz≤c.sz+4*l.length
 | [],c=>zO _
 | q::l,c=>by
  have:=qlJ l (stepPick c q).1
  have:=qH6 c q
  simp only[qaw,zq]
  omega
theorem Kept'.trans{c d e:Cluster}(h:Kept' c d)(k:Kept' d e):Kept' c e:=⟨k.graph.trans h.graph,fun x=>k.got (h.got x),k.wlen.trans h.wlen⟩
theorem qlK:∀(l:List Pick) (c:Cluster),Kept' c (qaw c l).1
 | [],_=>.rfl
 | q::l,c=>(qKL c q).trans (qlK l _)
theorem qhh{α:Type}(i:Nat)(l:List α):(l.take i).length≤l.length:=by rw[zay];omega
theorem qqS(c:Cluster)(l:List Pick)(i:Nat):(qaw c (l.take i)).1.sz≤c.sz+4*l.length:=by
 have:=qlJ (l.take i) c
 have:=qhh i l
 omega
def didOf(l:List Bool):Nat:=(l.filter id).length
theorem qqT(l:List Bool):didOf l≤l.length:=zat _ _
theorem qqU(l:List Bool)(b:Bool):didOf (l++[b])=didOf l+(if b then 1 else 0):=by
 cases b<;>simp[didOf]
end Go.Proofs.YtdanpadojemjeaaGreat
namespace Go.Proofs.YtdanpadojemjeaaGreat
open Go.Sx Go.RowKit Go.Proofs.Tryz
theorem qKN(c:Cluster)(l:List Pick)(hc:c.sz+4*l.length≤8388608)(hw:GotLe c):Rt 28 [.agg c.e,.one (.sl 3 (l.map Pick.e))] [.agg (qaw c l).1.e,.one (.sl 1 ((qaw c l).2.map eB))]:=by
 have hl:l.length≤8388608:=by omega
 have k:=qan (P:=prog) (c:=(qaa f28 0)) (qaf 0) l.length (fun i:Nat=>qhd (l.map Pick.e) i ((qaw c (l.take i)).2.map eB) ((qaw c (l.take i)).1.graph.nodes.map Node.e) (qaw c (l.take i)).1.graph.workers (qaw c (l.take i)).1.graph.cap ((qaw c (l.take i)).1.workers.map Worker.e) ((qaw c (l.take i)).1.links.map Link.e) ((qaw c (l.take i)).1.tokens.map Token.e) ((qaw c (l.take i)).1.news.map News.e) 0 0) (fun i hi=>by
  obtain⟨p,hp⟩:=qai hi
  have hn:=qiQ (l.take i) c
  have hs:=qqS c l i
  have hg:=(qlK (l.take i) c).got hw
  rw[qqR c hp]
  dsimp only
  rw[qhg]
  generalize qaw c (l.take i)=o at*
  exact qIQ ⟨lt1 hi,lt0,lt2 hi,qac Pick.e hp,qKG o.1 p (by omega) hg,by simp[hn];omega,by simp[hn];omega,flatB [(stepPick o.1 p).2],up1 hi hl,trivial⟩) (qIR ⟨ge1,trivial⟩)
 rw[zC]at k
 exact qIS ⟨qcX c (by omega),k,trivial⟩
def qbw(c:Cluster):Cluster×Nat:=((qaw c (qbM c)).1,didOf (qaw c (qbM c)).2)
theorem qKO{c d:Cluster}(h:d.graph=c.graph):qbM d=qbM c:=by unfold qbM;rw[h]
theorem qiR(c:Cluster):Kept' c (qbw c).1:=qlK _ _
theorem qlP(c:Cluster):(qbw c).1.sz≤c.sz+400:=by
 have:=qlJ (qbM c) c
 have:=qlO c
 unfold qbw
 dsimp only
 omega
theorem qKP(c:Cluster)(l:List Pick)(hc:c.sz+4*l.length≤8388608):RetR prog 94 [.ref (runE c) (runE (qaw c l).1),.ro (.one (.sl 3 (l.map Pick.e)))] (.vals [.one (I (didOf (qaw c l).2))]):=by
 have hl:l.length≤8388608:=by omega
 have k:=qan (P:=prog) (c:=(qaa f94 0)) (qaf 0) l.length (fun i:Nat=>qfi (l.map Pick.e) i (didOf (qaw c (l.take i)).2) ((qaw c (l.take i)).1.graph.nodes.map Node.e) (qaw c (l.take i)).1.graph.workers (qaw c (l.take i)).1.graph.cap ((qaw c (l.take i)).1.workers.map Worker.e) ((qaw c (l.take i)).1.links.map Link.e) ((qaw c (l.take i)).1.tokens.map Token.e) ((qaw c (l.take i)).1.news.map News.e) (qah (qaw c (l.take i)).1)) (fun i hi=>by
  obtain⟨p,hp⟩:=qai hi
  have hn:=qiQ (l.take i) c
  have hd:=qqT (qaw c (l.take i)).2
  have hs:=qqS c l i
  have ht:=qhh i l
  rw[qqR c hp]
  dsimp only
  rw[qqU]
  generalize qaw c (l.take i)=o at*
  have st:=qKF o.1 p (by omega)
  cases hb:(stepPick o.1 p).2 with
  | true=>
   rw[hb]at st
   exact qKc ⟨lt1 hi,lt0,lt2 hi,qac Pick.e hp,st,rfl,⟨by omega,by omega⟩,up1 hi hl,trivial⟩
  | false=>
   rw[hb]at st
   exact qKd ⟨lt1 hi,lt0,lt2 hi,qac Pick.e hp,st,rfl,up1 hi hl,trivial⟩) (qKe ⟨ge1,trivial⟩)
 rw[zC]at k
 exact qKf ⟨k,trivial⟩
theorem qKQ(c:Cluster)(hc:c.sz+400≤8388608)(hw:GotLe c):Rt 35 [.agg c.e] [.agg (qbw c).1.e,.one (I (qbw c).2)]:=by
 have ha:=qlO c
 have run:=qKN c (qbM c) (by omega) hw
 have hn:=qiQ (qbM c) c
 unfold qbw
 dsimp only
 generalize qaw c (qbM c)=o at*
 have k:=qan (P:=prog) (c:=(qaa f35 0)) (qaf 0) o.2.length (fun i:Nat=>qfh (o.1.graph.nodes.map Node.e) o.1.graph.workers o.1.graph.cap (o.1.workers.map Worker.e) (o.1.links.map Link.e) (o.1.tokens.map Token.e) (o.1.news.map News.e) (o.2.map eB) i (didOf (o.2.take i))) (fun i hi=>by
  obtain⟨b,hb⟩:=qai hi
  have hd:=qqT (o.2.take i)
  have ht:=qhh i o.2
  rw[zbe,hb,zcp,qqU]
  cases b with
  | true=>exact qIu ⟨lt1 hi,lt0,lt2 hi,qac eB hb,rfl,⟨by omega,by omega⟩,up1 hi (by omega),trivial⟩
  | false=>exact qIv ⟨lt1 hi,lt0,lt2 hi,qac eB hb,rfl,up1 hi (by omega),trivial⟩) (qIw ⟨ge1,trivial⟩)
 rw[zC]at k
 exact qIx ⟨qKM c,run,k,trivial⟩
def qau:Nat→Cluster→Nat→Cluster×Nat
 | 0,c,k=>(c,k)
 | n+1,c,k=>if (qbw c).2=0 then ((qbw c).1,k+1) else qau n (qbw c).1 (k+1)
def qbN(c:Cluster)(most:Int):Cluster×Nat:=qau (qbR most 0 3000).toNat c 0
theorem qq0:∀(n:Nat) (c:Cluster) (k:Nat),(qau n c k).1.sz≤c.sz+n*400
 | 0,c,k=>zO _
 | n+1,c,k=>by
  have h1:=qlP c
  have h2:=qq0 n (qbw c).1 (k+1)
  unfold qau
  split
  ·dsimp only;omega
  ·omega
theorem qq1:∀(n:Nat) (c:Cluster) (k:Nat),Kept' c (qau n c k).1
 | 0,c,k=>.rfl
 | n+1,c,k=>by
  unfold qau
  split
  ·exact qiR c
  ·exact (qiR c).trans (qq1 n _ _)
theorem qq2{n:Nat}{c:Cluster}{k:Nat}(h0:¬(qbw c).2=0):qau (n+1) c k=qau n (qbw c).1 (k+1):=by
 conv=>lhs;unfold qau
 rw[zo h0]
theorem qlQ(n:Int):∃k:Nat,qbR n 0 3000=k∧k≤3000:=by
 refine⟨(qbR n 0 3000).toNat,?_,?_⟩<;>(unfold qbR;simp only[show ¬(3000:Int)<0 by omega,zci];split<;>(try split)<;>omega)
theorem nat0(n:Nat):((n:Int)==0)=decide (n=0):=by
 rw[Bool.eq_iff_iff];simp only[zE,zi];omega
theorem qq3(m:Nat)(hm:m≤3000)(l:List Pick):∀(n:Nat) (c:Cluster) (k:Nat),k+n=m→qbM c=l→c.sz+n*400≤8388608→
  qaj prog (qaa f36 0) (qeh (l.map Pick.e) m ((k:Int)+1) (c.graph.nodes.map Node.e) c.graph.workers c.graph.cap (c.workers.map Worker.e) (c.links.map Link.e) (c.tokens.map Token.e) (c.news.map News.e) (qah c) 0 0) .ret
    (qlz (qau n c k).2 ((qau n c k).1.graph.nodes.map Node.e) (qau n c k).1.graph.workers (qau n c k).1.graph.cap ((qau n c k).1.workers.map Worker.e) ((qau n c k).1.links.map Link.e) ((qau n c k).1.tokens.map Token.e) ((qau n c k).1.news.map News.e))∨
  (qau n c k).2=m∧qaj prog (qaa f36 0) (qeh (l.map Pick.e) m ((k:Int)+1) (c.graph.nodes.map Node.e) c.graph.workers c.graph.cap (c.workers.map Worker.e) (c.links.map Link.e) (c.tokens.map Token.e) (c.news.map News.e) (qah c) 0 0) (.exit 0)
    (qlA m ((qau n c k).1.graph.nodes.map Node.e) (qau n c k).1.graph.workers (qau n c k).1.graph.cap ((qau n c k).1.workers.map Worker.e) ((qau n c k).1.links.map Link.e) ((qau n c k).1.tokens.map Token.e) ((qau n c k).1.news.map News.e) (qah (qau n c k).1) 0 0)
 | 0,c,k,hk,_,_=>.inr ⟨by unfold qau;omega,.last (qaf 0) (qJv ⟨dF (by omega),trivial⟩)⟩
 | n+1,c,k,hk,hl,hc=>by
  have r:=qKP c l (by have:=qlO c;rw[hl]at this;omega)
  have hs:=qlP c
  have hg:=(qiR c).graph
  have e1:qbw c=((qaw c l).1,didOf (qaw c l).2):=by unfold qbw;rw[hl]
  by_cases h0:(qbw c).2=0
  ·rw[show qau (n+1) c k=((qbw c).1,k+1) by unfold qau;rw[zp h0]]
   rw[e1]at h0 ⊢
   exact .inl (.last qat (qJu ⟨dT (by omega),r,by rw[nat0];exact zap h0,trivial⟩))
  ·rw[qq2 h0]
   have ih:=qq3 m hm l n (qbw c).1 (k+1) (by omega) ((qKO hg).trans hl) (by omega)
   rw[e1]at h0 ih ⊢
   rcases ih with ih | ⟨ih1,ih⟩
   ·exact .inl (.more (qqq ⟨dT (by omega),r,by rw[nat0];exact zt h0,⟨by omega,by omega⟩,trivial⟩) ih)
   ·exact .inr ⟨ih1,.more (qqq ⟨dT (by omega),r,by rw[nat0];exact zt h0,⟨by omega,by omega⟩,trivial⟩) ih⟩
theorem qKR(c:Cluster)(most:Int)(hc:c.sz+1200000≤8388608)(hw:GotLe c):Rt 36 [.agg c.e,.one (I most)] [.agg (qbN c most).1.e,.one (I (qbN c most).2)]:=by
 have b:=qkz most 0 3000
 obtain⟨m,hm,hb⟩:=qlQ most
 unfold qbN
 rw[hm]at b ⊢
 rw[zae]
 rcases qq3 m (by omega) (qbM c) m c 0 (by omega) rfl (by omega) with k | ⟨k1,k⟩
 ·exact qJw ⟨qp5 c (by omega) hw,qqZ c,b,k,trivial⟩
 ·rw[k1]
  exact qJx ⟨qp5 c (by omega) hw,qqZ c,b,k,trivial⟩
theorem qq4(most:Int)(m:Nat)(hm:m≤3000)(b:Rt 96 [.one (I most),.one (I 0),.one (I 3000)] [.one (I m)]):∀(n:Nat) (c:Cluster) (k:Nat),k+n=m→GotLe c→c.sz+n*400≤8388608→
  qaj prog (qaa f37 0) (qeg most k (c.graph.nodes.map Node.e) c.graph.workers c.graph.cap (c.workers.map Worker.e) (c.links.map Link.e) (c.tokens.map Token.e) (c.news.map News.e) 0 0) (.exit 0)
    (qlx (qau n c k).2 ((qau n c k).1.graph.nodes.map Node.e) (qau n c k).1.graph.workers (qau n c k).1.graph.cap ((qau n c k).1.workers.map Worker.e) ((qau n c k).1.links.map Link.e) ((qau n c k).1.tokens.map Token.e) ((qau n c k).1.news.map News.e) 0 0)∨
  qaj prog (qaa f37 0) (qeg most k (c.graph.nodes.map Node.e) c.graph.workers c.graph.cap (c.workers.map Worker.e) (c.links.map Link.e) (c.tokens.map Token.e) (c.news.map News.e) 0 0) (.exit 0)
    (qly (qau n c k).2 ((qau n c k).1.graph.nodes.map Node.e) (qau n c k).1.graph.workers (qau n c k).1.graph.cap ((qau n c k).1.workers.map Worker.e) ((qau n c k).1.links.map Link.e) ((qau n c k).1.tokens.map Token.e) ((qau n c k).1.news.map News.e) 0 0)
 | 0,c,k,hk,_,_=>.inr (.last (qaf 0) (qIz ⟨b,dF (by omega),trivial⟩))
 | n+1,c,k,hk,hw,hc=>by
  have r:=qKQ c (by omega) hw
  have hs:=qlP c
  have kp:=qiR c
  by_cases h0:(qbw c).2=0
  ·rw[show qau (n+1) c k=((qbw c).1,k+1) by unfold qau;rw[zp h0]]
   exact .inl (.last (qaf 0) (qIy ⟨b,dT (by omega),r,⟨by omega,by omega⟩,by rw[nat0];exact zap h0,trivial⟩))
  ·rw[qq2 h0]
   have ih:=qq4 most m hm b n (qbw c).1 (k+1) (by omega) (kp.got hw) (by omega)
   rcases ih with ih | ih
   ·exact .inl (.more (qqi ⟨b,dT (by omega),r,⟨by omega,by omega⟩,by rw[nat0];exact zt h0,trivial⟩) ih)
   ·exact .inr (.more (qqi ⟨b,dT (by omega),r,⟨by omega,by omega⟩,by rw[nat0];exact zt h0,trivial⟩) ih)
theorem qKS(c:Cluster)(most:Int)(hc:c.sz+1200000≤8388608)(hw:GotLe c):Rt 37 [.agg c.e,.one (I most)] [.agg (qbN c most).1.e,.one (I (qbN c most).2)]:=by
 have b:=qkA most 0 3000
 obtain⟨m,hm,hb⟩:=qlQ most
 unfold qbN
 rw[hm]at b ⊢
 rw[zae]
 rcases qq4 most m (by omega) b m c 0 (by omega) hw (by omega) with k | k
 ·exact qIA ⟨qcX c (by omega),k,trivial⟩
 ·exact qIB ⟨qcX c (by omega),k,trivial⟩
end Go.Proofs.YtdanpadojemjeaaGreat
