/- GraphOk, Changed, LeastOf: what program and reference compute (cases put together by gentree.py). -/
import Derived.Test.YtenekpkjlgddnaaP15
import Derived.Test.YtenekpkjlgddnaaC0
import Derived.Test.YtenekpkjlgddnaaGS
set_option linter.unusedVariables false
set_option linter.unusedSimpArgs false
namespace Go.Proofs.Ytenekpkjlgddnaa
open Go.Sx Go.RowKit Go.Proofs.Try
def qa5(g:Graph)(k:Int):Int:=match g.nodes[k.toNat]? with | some y=>y.kind | none=>0
def qaP(g:Graph)(i:Nat)(x:Node)(k:Int):Bool:=
 decide ((g.nodes.length:Int)≤k)||(if x.kind=7 then decide ((i:Int)<k)||(qa5 g k != 5&&qa5 g k != 6) else decide (k≤i))
def qbG(g:Graph)(i:Nat)(x:Node):Bool:=!qaa x||(decide (x.kind=1) != decide ((i:Int)=0))||x.outs.any (qaP g i x)
def qaC(g:Graph):Bool:=inR g.nodes.length 1 8&&inR g.workers 1 4&&inR g.cap 1 4&&!(anyI (qbG g) 0 g.nodes)
def qah(x:Node)(k v:Int):Int×Int×Bool:=
 if qaa x&&qaz k v then
  if x.kind=2 then (k,less (v+x.a) 999,true)
  else if x.kind=4 then ((k+x.a).tmod 100,v,true)
  else if x.kind=3 then (k,v,k.tmod x.a==x.b)
  else (k,v,x.kind != 8)
 else (k,v,false)
theorem qnW{l:List Int}(h:okAll l=true){k:Int}(hk:k∈l):inR k 0 7=true:=by
 simp only[okAll,zS,zP]at h
 simpa using h k hk
theorem qir(g:Graph)(hg:g.sz≤8388608)(i:Nat)(hi:i<8)(x:Node)(hx:g.nodes[i]?=some x)(hok:qaa x=true)(j:Nat)(k:Int)(hk:x.outs[j]?=some k)(r:Bool)(hr:qaP g i x k=r):Tr prog (qab f40 1) (qav (g.nodes.map Node.e) i (g.nodes.map Node.e) g.workers g.cap x.kind x.a x.b (x.outs.map eI) (j:Int)) (bif r then .ret else .normal) (bif r then qbF false else qav (g.nodes.map Node.e) i (g.nodes.map Node.e) g.workers g.cap x.kind x.a x.b (x.outs.map eI) ((j+1:Nat):Int)):=by
 have hj:=lt_of hk
 have hl:x.outs.length≤2:=by grind[qaa]
 have hk0:inR k 0 7=true:=qnW (by grind[qaa]) (qbD hk)
 have hk1:x.outs[(j:Int).toNat]?=some k:=by simpa using hk
 have hj1:decide ((j:Int)<(↑(x.outs.map eI).length:Int))=true:=lt1 hj
 rcases ze (decide (k≥(↑(g.nodes.map Node.e).length:Int))) with h1 | h1
 ·skip
  obtain rfl:r=true:=by rw[←hr];grind[qaP,qa5,inR]
  exact qlB ⟨hj1,(by grind[inR,inInt,qaa]),(by grind[inR,inInt,qaa]),(qac eI hk1),h1,trivial⟩
 ·skip
  obtain⟨y2,hy2⟩:=look (xs:=g.nodes) (i:=k) (by grind[inR,inInt,qaa]) (by grind[inR,inInt,qaa])
  rcases ze (x.kind==7) with h3 | h3
  ·skip
   rcases ze (decide (k>(i:Int))) with h4 | h4
   ·skip
    obtain rfl:r=true:=by rw[←hr];grind[qaP,qa5,inR]
    exact qlC ⟨hj1,(by grind[inR,inInt,qaa]),(by grind[inR,inInt,qaa]),(qac eI hk1),h1,(by grind[inR,inInt,qaa]),(by grind[inR,inInt,qaa]),(qac Node.e hy2),h3,h4,trivial⟩
   ·skip
    rcases ze (y2.kind != 5) with h5 | h5
    ·skip
     rcases ze (y2.kind != 6) with h6 | h6
     ·skip
      obtain rfl:r=true:=by rw[←hr];grind[qaP,qa5,inR]
      exact qlD ⟨hj1,(by grind[inR,inInt,qaa]),(by grind[inR,inInt,qaa]),(qac eI hk1),h1,(by grind[inR,inInt,qaa]),(by grind[inR,inInt,qaa]),(qac Node.e hy2),h3,h4,h5,h6,trivial⟩
     ·skip
      rcases ze (x.kind != 7) with h7 | h7
      ·skip
       rcases ze (decide (k≤(i:Int))) with h8 | h8
       ·skip
        obtain rfl:r=true:=by rw[←hr];grind[qaP,qa5,inR]
        exact qlE ⟨hj1,(by grind[inR,inInt,qaa]),(by grind[inR,inInt,qaa]),(qac eI hk1),h1,(by grind[inR,inInt,qaa]),(by grind[inR,inInt,qaa]),(qac Node.e hy2),h3,h4,h5,h6,h7,h8,trivial⟩
       ·skip
        obtain rfl:r=false:=by rw[←hr];grind[qaP,qa5,inR]
        exact qlF ⟨hj1,(by grind[inR,inInt,qaa]),(by grind[inR,inInt,qaa]),(qac eI hk1),h1,(by grind[inR,inInt,qaa]),(by grind[inR,inInt,qaa]),(qac Node.e hy2),h3,h4,h5,h6,h7,h8,(by grind[inR,inInt,qaa]),trivial⟩
      ·skip
       obtain rfl:r=false:=by rw[←hr];grind[qaP,qa5,inR]
       exact qlG ⟨hj1,(by grind[inR,inInt,qaa]),(by grind[inR,inInt,qaa]),(qac eI hk1),h1,(by grind[inR,inInt,qaa]),(by grind[inR,inInt,qaa]),(qac Node.e hy2),h3,h4,h5,h6,h7,(by grind[inR,inInt,qaa]),trivial⟩
    ·skip
     rcases ze (x.kind != 7) with h9 | h9
     ·skip
      rcases ze (decide (k≤(i:Int))) with h10 | h10
      ·skip
       obtain rfl:r=true:=by rw[←hr];grind[qaP,qa5,inR]
       exact qlH ⟨hj1,(by grind[inR,inInt,qaa]),(by grind[inR,inInt,qaa]),(qac eI hk1),h1,(by grind[inR,inInt,qaa]),(by grind[inR,inInt,qaa]),(qac Node.e hy2),h3,h4,h5,h9,h10,trivial⟩
      ·skip
       obtain rfl:r=false:=by rw[←hr];grind[qaP,qa5,inR]
       exact qlI ⟨hj1,(by grind[inR,inInt,qaa]),(by grind[inR,inInt,qaa]),(qac eI hk1),h1,(by grind[inR,inInt,qaa]),(by grind[inR,inInt,qaa]),(qac Node.e hy2),h3,h4,h5,h9,h10,(by grind[inR,inInt,qaa]),trivial⟩
     ·skip
      obtain rfl:r=false:=by rw[←hr];grind[qaP,qa5,inR]
      exact qlJ ⟨hj1,(by grind[inR,inInt,qaa]),(by grind[inR,inInt,qaa]),(qac eI hk1),h1,(by grind[inR,inInt,qaa]),(by grind[inR,inInt,qaa]),(qac Node.e hy2),h3,h4,h5,h9,(by grind[inR,inInt,qaa]),trivial⟩
  ·skip
   rcases ze (x.kind != 7) with h11 | h11
   ·skip
    rcases ze (decide (k≤(i:Int))) with h12 | h12
    ·skip
     obtain rfl:r=true:=by rw[←hr];grind[qaP,qa5,inR]
     exact qlK ⟨hj1,(by grind[inR,inInt,qaa]),(by grind[inR,inInt,qaa]),(qac eI hk1),h1,(by grind[inR,inInt,qaa]),(by grind[inR,inInt,qaa]),(qac Node.e hy2),h3,h11,h12,trivial⟩
    ·skip
     obtain rfl:r=false:=by rw[←hr];grind[qaP,qa5,inR]
     exact qlL ⟨hj1,(by grind[inR,inInt,qaa]),(by grind[inR,inInt,qaa]),(qac eI hk1),h1,(by grind[inR,inInt,qaa]),(by grind[inR,inInt,qaa]),(qac Node.e hy2),h3,h11,h12,(by grind[inR,inInt,qaa]),trivial⟩
   ·skip
    obtain rfl:r=false:=by rw[←hr];grind[qaP,qa5,inR]
    exact qlM ⟨hj1,(by grind[inR,inInt,qaa]),(by grind[inR,inInt,qaa]),(qac eI hk1),h1,(by grind[inR,inInt,qaa]),(by grind[inR,inInt,qaa]),(qac Node.e hy2),h3,h11,(by grind[inR,inInt,qaa]),trivial⟩
theorem qnX(g:Graph)(hg:g.sz≤8388608)(i:Nat)(hi:i<8)(x:Node)(hx:g.nodes[i]?=some x)(hok:qaa x=true):
  (x.outs.any (qaP g i x)=true∧qam prog (qab f40 1) (qav (g.nodes.map Node.e) i (g.nodes.map Node.e) g.workers g.cap x.kind x.a x.b (x.outs.map eI) 0) .ret (qbF false))∨(x.outs.any (qaP g i x)=false∧qam prog (qab f40 1) (qav (g.nodes.map Node.e) i (g.nodes.map Node.e) g.workers g.cap x.kind x.a x.b (x.outs.map eI) 0) (.exit 2) (qf4 (g.nodes.map Node.e) i (g.nodes.map Node.e) g.workers g.cap)):=by
 have l:=qcU (P:=prog) (c:=(qab f40 1)) x.outs (qaP g i x) (fun j=>qav (g.nodes.map Node.e) i (g.nodes.map Node.e) g.workers g.cap x.kind x.a x.b (x.outs.map eI) j) (X:=fun _ _=>qbF false) qcT (qaF 2)
  (fun j k hk h=>qir g hg i hi x hx hok j k hk false h)
  (fun j k hk h=>qir g hg i hi x hx hok j k hk true h)
  (qlN ⟨ge1,trivial⟩)
 rcases l with⟨_,_,h1,h2⟩ | ⟨j,k,_,_,_,_,h1,h2⟩
 ·exact .inr ⟨h1,h2⟩
 ·exact .inl ⟨h1,h2⟩
theorem qis(g:Graph)(hg:g.sz≤8388608)(i:Nat)(hi:i<8)(x:Node)(hx:g.nodes[i]?=some x)(r:Bool)(hr:qbG g i x=r):Tr prog (qab f40 0) (qbf (g.nodes.map Node.e) ((i:Nat):Int) (g.nodes.map Node.e) g.workers g.cap) (bif r then .ret else .normal) (bif r then qcx false else qbf (g.nodes.map Node.e) ((i+1:Nat):Int) (g.nodes.map Node.e) g.workers g.cap):=by
 have hj:=lt_of hx
 have ho:=Graph.outs_le hg (qbD hx)
 have hk1:g.nodes[(i:Int).toNat]?=some x:=by simpa using hx
 have hj1:decide ((i:Int)<(↑(g.nodes.map Node.e).length:Int))=true:=lt1 hj
 have c1:=qiq x (by grind)
 rcases ze (qaa x) with h2 | h2
 ·skip
  rcases ze ((x.kind==1)==((i:Int)==0)) with h3 | h3
  ·skip
   rcases qnX g hg i hi x hx (by grind) with⟨hL,l⟩ | ⟨hL,l⟩
   ·skip
    obtain rfl:r=true:=by rw[←hr];grind[qbG]
    exact qlO ⟨hj1,(by grind[inR,inInt,qaa]),(by grind[inR,inInt,qaa]),(qac Node.e hk1),c1,(by rw[h2];rfl),(by rw[h3];rfl),l,trivial⟩
   ·skip
    obtain rfl:r=false:=by rw[←hr];grind[qbG]
    exact qlP ⟨hj1,(by grind[inR,inInt,qaa]),(by grind[inR,inInt,qaa]),(qac Node.e hk1),c1,(by rw[h2];rfl),(by rw[h3];rfl),l,(by grind[inR,inInt,qaa]),trivial⟩
  ·skip
   obtain rfl:r=true:=by rw[←hr];grind[qbG]
   exact qlA ⟨hj1,(by grind[inR,inInt,qaa]),(by grind[inR,inInt,qaa]),(qac Node.e hk1),c1,(by rw[h2];rfl),(by rw[h3];rfl),trivial⟩
 ·skip
  obtain rfl:r=true:=by rw[←hr];grind[qbG]
  exact qlz ⟨hj1,(by grind[inR,inInt,qaa]),(by grind[inR,inInt,qaa]),(qac Node.e hk1),c1,(by rw[h2];rfl),trivial⟩
theorem qnY(g:Graph)(hg:g.sz≤8388608)(h8:g.nodes.length≤8):
  (anyI (qbG g) 0 g.nodes=true∧qam prog (qab f40 0) (qbf (g.nodes.map Node.e) 0 (g.nodes.map Node.e) g.workers g.cap) .ret (qcx false))∨(anyI (qbG g) 0 g.nodes=false∧qam prog (qab f40 0) (qbf (g.nodes.map Node.e) 0 (g.nodes.map Node.e) g.workers g.cap) (.exit 0) qf5):=by
 have l:=qj4 (P:=prog) (c:=(qab f40 0)) g.nodes (qbG g) (fun i=>qbf (g.nodes.map Node.e) (i:Nat) (g.nodes.map Node.e) g.workers g.cap) (X:=qcx false) qcT (qaF 0)
  (fun i x hx h=>qis g hg i (by have:=lt_of hx;omega) x hx false h)
  (fun i x hx h=>qis g hg i (by have:=lt_of hx;omega) x hx true h)
  (qlQ ⟨ge1,trivial⟩)
 rcases l with⟨h1,h2⟩ | ⟨h1,h2⟩
 ·exact .inr ⟨h1,h2⟩
 ·exact .inl ⟨h1,h2⟩
theorem qen(g:Graph)(hg:g.sz≤8388608):Rt 40 [.agg g.e] [.one (B (qaC g))]:=by
 have c1:=qaV (↑(g.nodes.map Node.e).length:Int) 1 8
 rcases ze (inR (↑(g.nodes.map Node.e).length:Int) 1 8) with h2 | h2
 ·skip
  have c3:=qaV g.workers 1 4
  rcases ze (inR g.workers 1 4) with h4 | h4
  ·skip
   have c5:=qaV g.cap 1 4
   rcases ze (inR g.cap 1 4) with h6 | h6
   ·skip
    rcases qnY g hg (by grind[inR]) with⟨hL,l⟩ | ⟨hL,l⟩
    ·skip
     rw[show qaC g=false from by grind[qaC]]
     exact qlR ⟨c1,(by rw[h2];rfl),c3,(by rw[h4];rfl),c5,(by rw[h6];rfl),l,trivial⟩
    ·skip
     rw[show qaC g=true from by grind[qaC]]
     exact qlS ⟨c1,(by rw[h2];rfl),c3,(by rw[h4];rfl),c5,(by rw[h6];rfl),l,trivial⟩
   ·skip
    rw[show qaC g=false from by grind[qaC]]
    exact qly ⟨c1,(by rw[h2];rfl),c3,(by rw[h4];rfl),c5,(by rw[h6];rfl),trivial⟩
  ·skip
   rw[show qaC g=false from by grind[qaC]]
   exact qlx ⟨c1,(by rw[h2];rfl),c3,(by rw[h4];rfl),trivial⟩
 ·skip
  rw[show qaC g=false from by grind[qaC]]
  exact qlw ⟨c1,(by rw[h2];rfl),trivial⟩
theorem qnZ(x:Node)(k v:Int)(hx:x.outs.length≤8388608):Rt 45 [.agg x.e,.one (I k),.one (I v)] [.one (I ((qah x k v).1)),.one (I ((qah x k v).2.1)),.one (B ((qah x k v).2.2))]:=by
 have c1:=qiq x (by grind)
 rcases ze (qaa x) with h2 | h2
 ·skip
  have c3:=qip k v
  rcases ze (qaz k v) with h4 | h4
  ·skip
   rcases ze (x.kind==2) with h5 | h5
   ·skip
    rw[show qah x k v=(k,if v+x.a<999 then v+x.a else 999,true) from by grind[qah,qaz,less,qaa,abOk]]
    exact ql3 ⟨c1,(by rw[h2];rfl),c3,(by rw[h4];rfl),h5,(by grind[qaa,abOk,inR,inInt,qaz]),trivial⟩
   ·skip
    rcases ze (x.kind==4) with h6 | h6
    ·skip
     rw[show qah x k v=((k+x.a).tmod 100,v,true) from by grind[qah,qaz,less,qaa,abOk]]
     exact ql4 ⟨c1,(by rw[h2];rfl),c3,(by rw[h4];rfl),h5,h6,(by grind[qaa,abOk,inR,inInt,qaz]),(by grind[qaa,abOk,inR,inInt,qaz]),trivial⟩
    ·skip
     rcases ze (x.kind==3) with h7 | h7
     ·skip
      rw[show qah x k v=(k,v,k.tmod x.a==x.b) from by grind[qah,qaz,less,qaa,abOk]]
      exact ql5 ⟨c1,(by rw[h2];rfl),c3,(by rw[h4];rfl),h5,h6,h7,(by grind[qaa,abOk,inR,inInt,qaz]),trivial⟩
     ·skip
      rw[show qah x k v=(k,v,x.kind != 8) from by grind[qah,qaz,less,qaa,abOk]]
      exact ql6 ⟨c1,(by rw[h2];rfl),c3,(by rw[h4];rfl),h5,h6,h7,trivial⟩
  ·skip
   rw[show qah x k v=(k,v,false) from by grind[qah,qaz,less,qaa,abOk]]
   exact ql2 ⟨c1,(by rw[h2];rfl),c3,(by rw[h4];rfl),trivial⟩
 ·skip
  rw[show qah x k v=(k,v,false) from by grind[qah,qaz,less,qaa,abOk]]
  exact ql1 ⟨c1,(by rw[h2];rfl),trivial⟩
def qaQ(a b:Cell):Bool:=a.op==b.op&&a.epoch==b.epoch&&a.key==b.key
def qbg(op ep key:Int)(s:Int×Bool)(a:Cell):Int×Bool:=if a.op=op∧a.epoch=ep∧a.key=key∧(s.2=false∨a.val<s.1) then (a.val,true) else s
def qdq(xs:List Cell)(op ep key:Int):Int×Bool:=xs.foldl (qbg op ep key) (0,false)
theorem qit(a b:Cell):Rt 89 [.agg a.e,.agg b.e] [.one (B (qaQ a b))]:=by
 rcases ze (a.op==b.op) with h1 | h1
 ·skip
  rcases ze (a.epoch==b.epoch) with h2 | h2
  ·skip
   rw[show qaQ a b=(a.key==b.key) from by grind[qaQ]]
   exact qkT ⟨h1,h2,trivial⟩
  ·skip
   rw[show qaQ a b=false from by grind[qaQ]]
   exact qkU ⟨h1,h2,trivial⟩
 ·skip
  rw[show qaQ a b=false from by grind[qaQ]]
  exact qkV ⟨h1,trivial⟩
theorem qn0(xs:List Cell)(hl:xs.length≤8388608)(op ep key m:Int)(f:Bool)(i:Nat)(a:Cell)(ha:xs[i]?=some a):Tr prog (qab f86 0) (qbe (xs.map Cell.e) op ep key i f m) .normal (qbe (xs.map Cell.e) op ep key ((i+1:Nat):Int) (qbg op ep key (m,f) a).2 (qbg op ep key (m,f) a).1):=by
 have hj:=lt_of ha
 have hk1:xs[(i:Int).toNat]?=some a:=by simpa using ha
 have hj1:decide ((i:Int)<(↑(xs.map Cell.e).length:Int))=true:=lt1 hj
 have c1:=qit a (⟨op,ep,key,0⟩:Cell)
 rcases ze (qaQ a (⟨op,ep,key,0⟩:Cell)) with h2 | h2
 ·skip
  rcases ze (f) with h3 | h3
  ·skip
   rcases ze (decide (a.val<m)) with h4 | h4
   ·skip
    rw[show qbg op ep key (m,f) a=(a.val,true) from by grind[qbg,qaQ]]
    exact qk3 ⟨hj1,(by grind[inInt]),(by grind[inInt]),(qac Cell.e hk1),c1,h2,(by rw[h3];rfl),h4,(by grind[inInt]),trivial⟩
   ·skip
    rw[show qbg op ep key (m,f) a=(m,f) from by grind[qbg,qaQ]]
    exact qk4 ⟨hj1,(by grind[inInt]),(by grind[inInt]),(qac Cell.e hk1),c1,h2,(by rw[h3];rfl),h4,(by grind[inInt]),trivial⟩
  ·skip
   rw[show qbg op ep key (m,f) a=(a.val,true) from by grind[qbg,qaQ]]
   exact qk2 ⟨hj1,(by grind[inInt]),(by grind[inInt]),(qac Cell.e hk1),c1,h2,(by rw[h3];rfl),(by grind[inInt]),trivial⟩
 ·skip
  rw[show qbg op ep key (m,f) a=(m,f) from by grind[qbg,qaQ]]
  exact qk5 ⟨hj1,(by grind[inInt]),(by grind[inInt]),(qac Cell.e hk1),c1,h2,(by grind[inInt]),trivial⟩
theorem qn1(xs:List Cell)(op ep key:Int)(hl:xs.length≤8388608):Rt 86 [.one (.sl 4 (xs.map Cell.e)),.one (I op),.one (I ep),.one (I key)] [.one (I (qdq xs op ep key).1),.one (B (qdq xs op ep key).2)]:=by
 have l:=qbw (P:=prog) (c:=(qab f86 0)) (qaF 0) xs.length (fun i:Nat=>qbe (xs.map Cell.e) op ep key i (qcp (qbg op ep key) (0,false) xs i).2 (qcp (qbg op ep key) (0,false) xs i).1) (fun i hi=>by
  obtain⟨a,ha⟩:=qag hi
  rw[qj2 ha]
  exact qn0 xs hl op ep key _ _ i a ha) (qk6 ⟨ge1,trivial⟩)
 rw[qj3]at l
 exact qk7 ⟨l,trivial⟩
end Go.Proofs.Ytenekpkjlgddnaa
namespace Go.Proofs.Ytenekpkjlgddnaa
open Go.Sx Go.RowKit Go.Proofs.Try
theorem qol{P:Program}{f:Nat}{args:List GA}{k:Nat}{l l':List (List D)}(h:RetG P f args [.one (.sl k l)])(hl:l=l'):RetG P f args [.one (.sl k l')]:=hl▸h
theorem qf7(xs:List Cell)(p:Cell→Bool)(g:Nat)(caps:List D)(hl:xs.length≤8388608)(hc:qaJ prog g=true)(hp:∀x∈xs,∀r,p x=r→Rt g ([.agg x.e]++caps.map .one) [.one (B r)]):
  ∀(n i:Nat) (ys:List Cell),n+i=xs.length→ys.length=xs.length→ys.drop i=xs.drop i→ys.take ((xs.take i).filter fun a=>!p a).length=(xs.take i).filter (fun a=>!p a)→
  ∃zs:List Cell,qam prog (qab f87 0) (qb5 g caps i ((xs.take i).filter fun a=>!p a).length (ys.map Cell.e)) (.exit 0) (qf1 (zs.map Cell.e) (xs.filter fun a=>!p a).length)∧zs.length=xs.length∧zs.take (xs.filter fun a=>!p a).length=xs.filter (fun a=>!p a)
 | 0,i,ys,hi,hy,_,ht=>by
  have e:xs.take i=xs:=zbk (by omega)
  rw[e]at ht ⊢
  exact⟨ys,.last (qaF 0) (qk0 _ _ _ _ _ ⟨dF (by simp;omega),trivial⟩),hy,ht⟩
 | n+1,i,ys,hi,hy,hd,ht=>by
  obtain⟨a,ha⟩:=qag (xs:=xs) (i:=i) (by omega)
  have hya:ys[i]?=some a:=by
   have e1:ys[i]?=(ys.drop i)[0]?:=by simp
   have e2:xs[i]?=(xs.drop i)[0]?:=by simp
   rw[e1,hd,←e2,ha]
  have hf:=qec (fun a=>!p a) ha
  have hle:=qfZ (fun a=>!p a) xs i
  have hdn:ys.drop (i+1)=xs.drop (i+1):=by
   have:=congrArg (List.drop 1) hd
   simpa[List.drop_drop,Nat.add_comm]using this
  cases h:p a with
  | true=>
   rw[h]at hf
   simp only[zZ,zao,zci,zaa]at hf
   obtain⟨zs,h1,h2,h3⟩:=qf7 xs p g caps hl hc hp n (i+1) ys (by omega) hy hdn (by rw[hf];exact ht)
   rw[hf]at h1
   exact⟨zs,.more (qkZ _ _ _ _ _ _ _ _ _ _ ⟨dT (by simp;omega),lt0,by simp;omega,qaB Cell.e hya,hc,hp a (qbD ha) true h,rfl,⟨by omega,by omega⟩,trivial⟩) h1,h2,h3⟩
  | false=>
   rw[h]at hf
   simp only[zbc,zbb]at hf
   generalize hj:((xs.take i).filter fun a=>!p a).length=j at*
   obtain⟨b,hb⟩:=qag (xs:=ys) (i:=j) (by omega)
   obtain⟨zs,h1,h2,h3⟩:=qf7 xs p g caps hl hc hp n (i+1) (ys.set j a) (by omega) (by simpa using hy) (by rw[List.drop_set_of_lt (by omega)];exact hdn) (by
    rw[hf,zab,hj,List.length_singleton,List.take_set,←ht]
    have hjl:j<ys.length:=by omega
    rw[List.take_succ_eq_append_getElem hjl,List.set_append_right _ _ (by simp;omega)]
    simp[zay,Nat.min_eq_left (Nat.le_of_lt hjl)])
   rw[hf,zab,hj,List.length_singleton]at h1
   refine⟨zs,.more (tr_to (fun l=>qb5 g caps ((i+1:Nat):Int) ((j+1:Nat):Int) l) (qkY _ _ _ _ _ _ _ _ _ _ _ _ _ _ ⟨dT (by simp;omega),lt0,by simp;omega,qaB Cell.e hya,hc,hp a (qbD ha) false h,rfl,lt0,by simp;omega,qaB Cell.e hb,⟨by omega,by omega⟩,⟨by omega,by omega⟩,trivial⟩) ?_) h1,h2,h3⟩
   show List.set _ _ a.e=_
   rw[zae,←zau]
theorem qom(xs:List Cell)(p:Cell→Bool)(g:Nat)(caps:List D)(hl:xs.length≤8388608)(hc:qaJ prog g=true)(hp:∀x∈xs,Rt g ([.agg x.e]++caps.map .one) [.one (B (p x))]):
  RetG prog 87 [.one (.gv 4 (xs.map Cell.e) none),.one (.ro (.cl g caps))] [.one (.sl 4 ((xs.filter fun a=>!p a).map Cell.e))]:=by
 have hp':∀x∈xs,∀r,p x=r→Rt g ([.agg x.e]++caps.map .one) [.one (B r)]:=fun x hx r h=>h▸hp x hx
 have ix:=qn2 xs p g caps hl hc hp
 unfold idxI at ix
 cases h:xs.findIdx? p with
 | none=>
  rw[h]at ix
  rw[zbs]at h
  have e:(xs.filter fun a=>!p a)=xs:=List.filter_eq_self.2 fun a ha=>by simp[h a ha]
  rw[e]
  exact qkX _ _ _ _ ⟨ix,rfl,trivial⟩
 | some i=>
  rw[h]at ix
  change Ret _ _ _ [.one (I (i:Int))]at ix
  rw[zai]at h
  obtain⟨hi,h2,h3⟩:=h
  have hx:xs[i]?=some xs[i]:=zu hi
  have e0:(xs.take i).filter (fun a=>!p a)=xs.take i:=List.filter_eq_self.2 fun a ha=>by
   obtain⟨j,hj,rfl⟩:=List.getElem_of_mem ha
   have hji:j<i:=by simp at hj;omega
   have:=h3 j hji
   simpa using this
  have e1:=qec (fun a=>!p a) hx
  rw[h2]at e1
  simp only[zZ,zao,zci,zaa]at e1
  rw[e0]at e1
  have e2:(xs.take i).length=i:=by rw[zay];omega
  obtain⟨zs,l,hz,ht⟩:=qf7 xs p g caps hl hc hp' (xs.length-(i+1)) (i+1) xs (by omega) rfl rfl (by rw[e1,e2])
  rw[e1,e2]at l
  have hlt:(xs.filter fun a=>!p a).length<xs.length:=by
   have e3:xs.filter (fun a=>!p a)=xs.take i++(xs.drop (i+1)).filter fun a=>!p a:=by
    have:=zcb (i+1) xs
    rw[←this,List.filter_append,this,e1]
   rw[e3,zab,e2]
   have:=zat (fun a=>!p a) (xs.drop (i+1))
   rw[List.length_drop]at this
   omega
  generalize xs.filter (fun a=>!p a)=fs at*
  refine qol (qk1 _ _ _ _ _ _ ⟨ix,zbq.2 (by omega),⟨by omega,by omega⟩,l,by simp,by simp;omega,qaM _ Cell.flat _,by simp,by simp,by simp;omega,trivial⟩) ?_
  simp only[zV,zae,Nat.sub_zero,zck,←zcr]
  rw[ht,zbw (by simp),zbk (by simp)]
def qbQ(k:Int):Bool:=k==5||k==6||k==8
def qbh(xs:List Cell)(x:Cell):List Cell×Bool:=
 if (qdq xs x.op x.epoch x.key).2&&decide ((qdq xs x.op x.epoch x.key).1≤x.val) then (xs,false) else (qaW (xs.filter fun a=>!qaQ x a) x,true)
def qai(kind:Int)(xs:List Cell)(x:Cell):List Cell×Bool:=
 if kind=6 then (if qbo xs x then (xs,false) else (qaW xs x,true))
 else if kind=5∨kind=8 then qbh xs x
 else (xs,true)
theorem qix(xs:List Cell)(x:Cell)(hl:xs.length≤8388608):Rt 67 [.one (.sl 4 (xs.map Cell.e)),.agg x.e] [.one (.sl 4 ((qbh xs x).1.map Cell.e)),.one (B (qbh xs x).2)]:=by
 have c:=qn1 xs x.op x.epoch x.key hl
 have cp:=qcw xs hl
 have d:=qom xs (qaQ x) 88 [D.ptr x.e] hl (by kernel_rfl) (fun y _=>qkW ⟨qit x y,trivial⟩)
 have pc:=qil (xs.filter fun a=>!qaQ x a) x (zce (zat ..) hl)
 unfold qbh
 generalize qdq xs x.op x.epoch x.key=m at*
 obtain⟨v,f⟩:=m
 cases f with
 | false=>exact qla ⟨c,rfl,cp,d,pc,trivial⟩
 | true=>
  by_cases h:v≤x.val
  ·rw[dT h]
   exact qk8 ⟨c,rfl,dT h,cp,trivial⟩
  ·rw[dF h]
   exact qk9 ⟨c,rfl,dF h,cp,d,pc,trivial⟩
theorem qiy(kind:Int)(xs:List Cell)(x:Cell)(hl:xs.length≤8388608):Rt 46 [.one (I kind),.one (.sl 4 (xs.map Cell.e)),.agg x.e] [.one (.sl 4 (((qai kind xs x).1).map Cell.e)),.one (B ((qai kind xs x).2))]:=by
 rcases ze (kind==5) with h1 | h1
 ·skip
  have c2:=qix xs x (by omega)
  rw[show qai kind xs x=(((qbh xs x).1),(qbh xs x).2) from by grind[qai,qbh,qaW]]
  exact qlb ⟨h1,h1,c2,trivial⟩
 ·skip
  rcases ze (kind==8) with h3 | h3
  ·skip
   have c4:=qix xs x (by omega)
   rw[show qai kind xs x=(((qbh xs x).1),(qbh xs x).2) from by grind[qai,qbh,qaW]]
   exact qlc ⟨h1,h3,c4,trivial⟩
  ·skip
   rcases ze (kind==6) with h5 | h5
   ·skip
    have c6:=qil xs x (by omega)
    have c7:=qij xs x (by omega)
    rw[show qai kind xs x=((qaW xs x),!(qbo xs x)) from by grind[qai,qbh,qaW]]
    exact qld ⟨h1,h3,h5,c6,c7,trivial⟩
   ·skip
    have c8:=qcw xs (by omega)
    rw[show qai kind xs x=(xs,true) from by grind[qai,qbh,qaW]]
    exact qle ⟨h1,h3,h5,c8,trivial⟩
def sends(x:Node)(s:Stamp)(key val:Int):List Record:=x.outs.map fun k=>⟨k,s,key,val⟩
def cellOf(r:Record):Cell:=⟨r.op,r.stamp.epoch,r.key,r.val⟩
def qau(g:Graph)(cs:List Cell)(r:Record)(x:Node):List Cell×List Record×Bool:=
 if qaC g&&qaw r then
  if !(qah x r.key r.val).2.2&&x.kind != 8 then (cs,[],true)
  else if !(qai x.kind cs ⟨r.op,r.stamp.epoch,r.key,r.val⟩).2 then ((qai x.kind cs ⟨r.op,r.stamp.epoch,r.key,r.val⟩).1,[],true)
  else if x.kind=7 then
   ((qai x.kind cs ⟨r.op,r.stamp.epoch,r.key,r.val⟩).1,(bif (qat r.stamp).2 then sends x (qat r.stamp).1 (qah x r.key r.val).1 (qah x r.key r.val).2.1 else []),true)
  else ((qai x.kind cs ⟨r.op,r.stamp.epoch,r.key,r.val⟩).1,sends x r.stamp (qah x r.key r.val).1 (qah x r.key r.val).2.1,true)
 else (cs,[],false)
theorem qiz(x:Node)(s:Stamp)(key val:Int){i:Nat}{k:Int}(h:x.outs[i]?=some k):(((x.outs.take (i+1)).map fun k=>(⟨k,s,key,val⟩:Record)).map Record.e)=(((x.outs.take i).map fun k=>(⟨k,s,key,val⟩:Record)).map Record.e)++[(⟨k,s,key,val⟩:Record).e]:=by
 simp[zbe,h]
theorem qiA(x:Node)(hx:x.outs.length≤8388608)(s:Stamp)(key val:Int)(nx:List (List D)):qam prog (qab f21 0) (qcy s.epoch s.turn (x.outs.map eI) key val nx 0 []) (.exit 0) (qb6 nx ((sends x s key val).map Record.e)):=by
 have l:=qbw (P:=prog) (c:=(qab f21 0)) (qaF 0) x.outs.length (fun i:Nat=>qcy s.epoch s.turn (x.outs.map eI) key val nx i (((x.outs.take i).map fun k=>(⟨k,s,key,val⟩:Record)).map Record.e)) (fun i hi=>by
  obtain⟨k,hk⟩:=qag hi
  rw[qiz x s key val hk]
  exact qn9 ⟨lt1 hi,lt0,lt2 hi,qaB eI hk,rfl,by simp;omega,by simp;omega,qdn (Record.flat ⟨k,s,key,val⟩),up1 hi hx,trivial⟩) (qoa ⟨ge1,trivial⟩)
 rw[zC]at l
 exact l
theorem qiB(x:Node)(hx:x.outs.length≤8388608)(b:Bool)(s:Stamp)(key val:Int)(nx:List (List D)):qam prog (qab f21 0) (qbH (x.outs.map eI) key val nx s.epoch s.turn b 0 []) (.exit 0) (qb6 nx ((bif b then sends x s key val else []).map Record.e)):=by
 cases b with
 | true=>
  have l:=qbw (P:=prog) (c:=(qab f21 0)) (qaF 0) x.outs.length (fun i:Nat=>qbH (x.outs.map eI) key val nx s.epoch s.turn true i (((x.outs.take i).map fun k=>(⟨k,s,key,val⟩:Record)).map Record.e)) (fun i hi=>by
   obtain⟨k,hk⟩:=qag hi
   rw[qiz x s key val hk]
   exact qn6 ⟨lt1 hi,lt0,lt2 hi,qaB eI hk,rfl,by simp;omega,by simp;omega,qdn (Record.flat ⟨k,s,key,val⟩),up1 hi hx,trivial⟩) (qiw ⟨ge1,trivial⟩)
  rw[zC]at l
  exact l
 | false=>
  exact qbw (P:=prog) (c:=(qab f21 0)) (qaF 0) x.outs.length (fun i:Nat=>qbH (x.outs.map eI) key val nx s.epoch s.turn false i []) (fun i hi=>by
   obtain⟨k,hk⟩:=qag hi
   exact qn7 ⟨lt1 hi,lt0,lt2 hi,qaB eI hk,rfl,up1 hi hx,trivial⟩) (qiw ⟨ge1,trivial⟩)
theorem qon(g:Graph)(cs:List Cell)(r:Record)(x:Node)(hg:g.sz≤8388608)(hl:cs.length≤8388608)(hn:qas g r.op=some x):Rt 21 [.agg g.e,.one (.sl 4 (cs.map Cell.e)),.agg r.e] [.one (.sl 4 ((qau g cs r x).1.map Cell.e)),.one (.sl 5 ((qau g cs r x).2.1.map Record.e)),.one (B (qau g cs r x).2.2)]:=by
 have hx:=Graph.outs_le hg (qlu hn)
 obtain⟨hk0,hk2,_,_⟩:=qim hn
 have hk1:g.nodes[r.op.toNat]?=some x:=by have:=hn;unfold qas at this;rwa[zp hk0]at this
 have c1:=qen g hg
 rcases ze (qaC g) with h2 | h2
 ·skip
  have c3:=qem r
  rcases ze (qaw r) with h4 | h4
  ·skip
   have c5:=qel g r.op true (by rw[hn];rfl) hg
   have c6:=qnZ x r.key r.val hx
   rcases ze ((qah x r.key r.val).2.2) with h7 | h7
   ·skip
    have c8:=qiy x.kind cs (⟨r.op,r.stamp.epoch,r.key,r.val⟩:Cell) (by omega)
    rcases ze ((qai x.kind cs (⟨r.op,r.stamp.epoch,r.key,r.val⟩:Cell)).2) with h9 | h9
    ·skip
     rcases ze (x.kind==7) with h10 | h10
     ·skip
      have c11:=qf6 r.stamp
      
      rw[show qau g cs r x=(((qai x.kind cs (⟨r.op,r.stamp.epoch,r.key,r.val⟩:Cell)).1),(bif (qat r.stamp).2 then sends x ((qat r.stamp).1) ((qah x r.key r.val).1) ((qah x r.key r.val).2.1) else []),true) from by grind[qau,qbQ,qai]]
      exact qod ⟨c1,(by rw[h2];rfl),c3,(by rw[h4];rfl),c5,rfl,(by first | omega | (simp only[zb,zh];omega) | exact qaM _ Cell.flat _ | grind[inInt]),(by first | omega | (simp only[zb,zh];omega) | exact qaM _ Cell.flat _ | grind[inInt]),(qac Node.e hk1),c6,(by rw[h7];rfl),c8,(by rw[h9];rfl),h10,c11,(qiB x hx ((qat r.stamp).2) ((qat r.stamp).1) ((qah x r.key r.val).1) ((qah x r.key r.val).2.1) _),trivial⟩
     ·skip
      
      rw[show qau g cs r x=(((qai x.kind cs (⟨r.op,r.stamp.epoch,r.key,r.val⟩:Cell)).1),(sends x r.stamp ((qah x r.key r.val).1) ((qah x r.key r.val).2.1)),true) from by grind[qau,qbQ,qai]]
      exact qoe ⟨c1,(by rw[h2];rfl),c3,(by rw[h4];rfl),c5,rfl,(by first | omega | (simp only[zb,zh];omega) | exact qaM _ Cell.flat _ | grind[inInt]),(by first | omega | (simp only[zb,zh];omega) | exact qaM _ Cell.flat _ | grind[inInt]),(qac Node.e hk1),c6,(by rw[h7];rfl),c8,(by rw[h9];rfl),h10,(qiA x hx r.stamp ((qah x r.key r.val).1) ((qah x r.key r.val).2.1) _),trivial⟩
    ·skip
     rw[show qau g cs r x=(((qai x.kind cs (⟨r.op,r.stamp.epoch,r.key,r.val⟩:Cell)).1),([]:List Record),true) from by grind[qau,qbQ,qai]]
     exact qoc ⟨c1,(by rw[h2];rfl),c3,(by rw[h4];rfl),c5,rfl,(by first | omega | (simp only[zb,zh];omega) | exact qaM _ Cell.flat _ | grind[inInt]),(by first | omega | (simp only[zb,zh];omega) | exact qaM _ Cell.flat _ | grind[inInt]),(qac Node.e hk1),c6,(by rw[h7];rfl),c8,(by rw[h9];rfl),trivial⟩
   ·skip
    rcases ze (x.kind != 8) with h12 | h12
    ·skip
     have c13:=qcw cs (by omega)
     rw[show qau g cs r x=(cs,([]:List Record),true) from by grind[qau,qbQ,qai]]
     exact qn4 ⟨c1,(by rw[h2];rfl),c3,(by rw[h4];rfl),c5,rfl,(by first | omega | (simp only[zb,zh];omega) | exact qaM _ Cell.flat _ | grind[inInt]),(by first | omega | (simp only[zb,zh];omega) | exact qaM _ Cell.flat _ | grind[inInt]),(qac Node.e hk1),c6,(by rw[h7];rfl),h12,c13,trivial⟩
    ·skip
     have c14:=qiy x.kind cs (⟨r.op,r.stamp.epoch,r.key,r.val⟩:Cell) (by omega)
     rcases ze ((qai x.kind cs (⟨r.op,r.stamp.epoch,r.key,r.val⟩:Cell)).2) with h15 | h15
     ·skip
      rcases ze (x.kind==7) with h16 | h16
      ·skip
       have c17:=qf6 r.stamp
       
       rw[show qau g cs r x=(((qai x.kind cs (⟨r.op,r.stamp.epoch,r.key,r.val⟩:Cell)).1),(bif (qat r.stamp).2 then sends x ((qat r.stamp).1) ((qah x r.key r.val).1) ((qah x r.key r.val).2.1) else []),true) from by grind[qau,qbQ,qai]]
       exact qn8 ⟨c1,(by rw[h2];rfl),c3,(by rw[h4];rfl),c5,rfl,(by first | omega | (simp only[zb,zh];omega) | exact qaM _ Cell.flat _ | grind[inInt]),(by first | omega | (simp only[zb,zh];omega) | exact qaM _ Cell.flat _ | grind[inInt]),(qac Node.e hk1),c6,(by rw[h7];rfl),h12,c14,(by rw[h15];rfl),h16,c17,(qiB x hx ((qat r.stamp).2) ((qat r.stamp).1) ((qah x r.key r.val).1) ((qah x r.key r.val).2.1) _),trivial⟩
      ·skip
       
       rw[show qau g cs r x=(((qai x.kind cs (⟨r.op,r.stamp.epoch,r.key,r.val⟩:Cell)).1),(sends x r.stamp ((qah x r.key r.val).1) ((qah x r.key r.val).2.1)),true) from by grind[qau,qbQ,qai]]
       exact qob ⟨c1,(by rw[h2];rfl),c3,(by rw[h4];rfl),c5,rfl,(by first | omega | (simp only[zb,zh];omega) | exact qaM _ Cell.flat _ | grind[inInt]),(by first | omega | (simp only[zb,zh];omega) | exact qaM _ Cell.flat _ | grind[inInt]),(qac Node.e hk1),c6,(by rw[h7];rfl),h12,c14,(by rw[h15];rfl),h16,(qiA x hx r.stamp ((qah x r.key r.val).1) ((qah x r.key r.val).2.1) _),trivial⟩
     ·skip
      rw[show qau g cs r x=(((qai x.kind cs (⟨r.op,r.stamp.epoch,r.key,r.val⟩:Cell)).1),([]:List Record),true) from by grind[qau,qbQ,qai]]
      exact qn5 ⟨c1,(by rw[h2];rfl),c3,(by rw[h4];rfl),c5,rfl,(by first | omega | (simp only[zb,zh];omega) | exact qaM _ Cell.flat _ | grind[inInt]),(by first | omega | (simp only[zb,zh];omega) | exact qaM _ Cell.flat _ | grind[inInt]),(qac Node.e hk1),c6,(by rw[h7];rfl),h12,c14,(by rw[h15];rfl),trivial⟩
  ·skip
   have c18:=qcw cs (by omega)
   rw[show qau g cs r x=(cs,([]:List Record),false) from by grind[qau,qbQ,qai]]
   exact qiv ⟨c1,(by rw[h2];rfl),c3,(by rw[h4];rfl),c18,trivial⟩
 ·skip
  have c19:=qcw cs (by omega)
  rw[show qau g cs r x=(cs,([]:List Record),false) from by grind[qau,qbQ,qai]]
  exact qiu ⟨c1,(by rw[h2];rfl),c19,trivial⟩
end Go.Proofs.Ytenekpkjlgddnaa
namespace Go.Proofs.Ytenekpkjlgddnaa
open Go.Sx Go.RowKit Go.Proofs.Try
def qar(g:Graph)(cs:List Cell)(r:Record):List Cell×List Record×Bool:=match qas g r.op with | some x=>qau g cs r x | none=>(cs,[],false)
theorem qiC(g:Graph)(cs:List Cell)(r:Record)(hg:g.sz≤8388608)(hl:cs.length≤8388608):Rt 21 [.agg g.e,.one (.sl 4 (cs.map Cell.e)),.agg r.e] [.one (.sl 4 ((qar g cs r).1.map Cell.e)),.one (.sl 5 ((qar g cs r).2.1.map Record.e)),.one (B (qar g cs r).2.2)]:=by
 unfold qar
 cases h:qas g r.op with
 | some x=>exact qon g cs r x hg hl h
 | none=>
  have c1:=qen g hg
  have c2:=qem r
  have c3:=qel g r.op false (by rw[h];rfl) hg
  have cp:=qcw cs hl
  generalize qaC g=b1 at*
  generalize qaw r=b2 at*
  cases b1 with
  | false=>exact qiu ⟨c1,rfl,cp,trivial⟩
  | true=>
   cases b2 with
   | false=>exact qiv ⟨c1,rfl,c2,rfl,cp,trivial⟩
   | true=>exact qn3 ⟨c1,rfl,c2,rfl,c3,rfl,cp,trivial⟩
def qa6(g:Graph)(r:Record)(x:Node):Bool:=qaC g&&qaw r&&x.kind==7&&decide (0<x.outs.length)&&!(qat r.stamp).2
def capped(g:Graph)(r:Record):Bool:=match qas g r.op with | some x=>qa6 g r x | none=>false
theorem qeo{g:Graph}(h:qaC g=true){op:Int}{x:Node}(hn:qas g op=some x):qaa x=true:=by
 simp only[qaC,zj,zS]at h
 unfold qas at hn
 split at hn
 ·have:=qfO h.2 op.toNat x hn
  simp only[qbG,zy,zX]at this
  exact this.1.1
 ·cases hn
theorem qoo{x:Node}(h:qaa x=true):x.outs.length≤2:=by
 simp only[qaa,zj,zi]at h
 exact h.1.1.1.2
theorem qop(kind:Int)(cs:List Cell)(x:Cell):(qai kind cs x).1.length≤cs.length+1:=by
 have h1:=qii cs x
 have h2:=qii (cs.filter fun a=>!qaQ x a) x
 have h3:=zat (fun a=>!qaQ x a) cs
 unfold qai
 split
 ·split<;>simp<;>omega
 ·split
  ·unfold qbh
   split<;>simp<;>omega
  ·simp
theorem qoq{g:Graph}(hg:qaC g=true)(cs:List Cell)(r:Record):(qar g cs r).1.length≤cs.length+1∧(qar g cs r).2.1.length≤2:=by
 unfold qar
 cases h:qas g r.op with
 | none=>exact⟨by simp,by simp⟩
 | some x=>
  have hx:=qoo (qeo hg h)
  have hr:=qop x.kind cs ⟨r.op,r.stamp.epoch,r.key,r.val⟩
  have hs:∀s k v,(sends x s k v).length≤2:=fun s k v=>by simpa[sends]using hx
  simp only[qau]
  split
  ·split
   ·exact⟨by simp,by simp⟩
   ·split
    ·exact⟨hr,by simp⟩
    ·split
     ·refine⟨hr,?_⟩
      cases (qat r.stamp).2 with
      | true=>exact hs _ _ _
      | false=>simp
     ·exact⟨hr,hs _ _ _⟩
  ·exact⟨by simp,by simp⟩
end Go.Proofs.Ytenekpkjlgddnaa
