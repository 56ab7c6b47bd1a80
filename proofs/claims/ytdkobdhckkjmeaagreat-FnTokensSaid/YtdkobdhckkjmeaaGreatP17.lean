import Derived.Test.YtdkobdhckkjmeaaGreatP16
import Derived.Test.YtdkobdhckkjmeaaGreatC0
import Derived.Test.YtdkobdhckkjmeaaGreatGS
set_option linter.unusedVariables false
set_option linter.unusedSimpArgs false
namespace Go.Proofs.YtdkobdhckkjmeaaGreat
open Go.Sx Go.RowKit Go.Proofs.Tryz
def qaX(k:Int):Bool:=k==5||k==6||k==8
def qba(xs:List Cell)(x:Cell):List Cell×Bool:=
 if (qcJ xs x.op x.epoch x.key).2&&decide ((qcJ xs x.op x.epoch x.key).1≤x.val) then (xs,false) else (qbD (xs.filter fun a=>!qaF x a) x,true)
def qaj(kind:Int)(xs:List Cell)(x:Cell):List Cell×Bool:=
 if kind=6 then (if qci xs x then (xs,false) else (qbD xs x,true))
 else if kind=5∨kind=8 then qba xs x
 else (xs,true)
theorem qrG(k:Int):Rt 294 [.one (I k)] [.one (B (qaX k))]:=by
 rcases ze (k==5) with h1 | h1
 ·skip
  rw[show qaX k=true from by grind[qaX]];exact qzo ⟨h1,trivial⟩
 ·skip
  rcases ze (k==6) with h2 | h2
  ·skip
   rw[show qaX k=true from by grind[qaX]];exact qzp ⟨h1,h2,trivial⟩
  ·skip
   rw[show qaX k=(k==8) from by grind[qaX]];exact qzq ⟨h1,h2,trivial⟩
theorem qIF(xs acc:List Cell)(x:Cell)(hl:xs.length≤8388608)(i:Nat)(hc:acc.length≤i)(a:Cell)(ha:xs[i]?=some a):Tr prog (qaa f295 0) (qbX (xs.map Cell.e) x.op x.epoch x.key x.val i (acc.map Cell.e)) .normal (qbX (xs.map Cell.e) x.op x.epoch x.key x.val ((i+1:Nat):Int) ((acc++(bif qaF x a then [] else [a])).map Cell.e)):=by
 have hj:=lt_of ha;have hk1:xs[(i:Int).toNat]?=some a:=by simpa using ha
 have hj1:decide ((i:Int)<(↑(xs.map Cell.e).length:Int))=true:=lt1 hj;rcases ze (a.op != x.op) with h1 | h1
 ·skip
  have hs:qaF x a=false:=by grind[qaF]
  rw[hs];rw[show (acc++(bif false then [] else [a])).map Cell.e=acc.map Cell.e++[a.e] from by simp];exact qzu ⟨hj1,(by first | omega | (simp only[zb,zq,zh];omega) | exact qat a.flat | (exact⟨by omega,by omega⟩)),(by first | omega | (simp only[zb,zq,zh];omega) | exact qat a.flat | (exact⟨by omega,by omega⟩)),(qad Cell.e hk1),h1,(by first | omega | (simp only[zb,zq,zh];omega) | exact qat a.flat | (exact⟨by omega,by omega⟩)),(by first | omega | (simp only[zb,zq,zh];omega) | exact qat a.flat | (exact⟨by omega,by omega⟩)),(qad Cell.e hk1),(by first | omega | (simp only[zb,zq,zh];omega) | exact qat a.flat | (exact⟨by omega,by omega⟩)),(by first | omega | (simp only[zb,zq,zh];omega) | exact qat a.flat | (exact⟨by omega,by omega⟩)),(by first | omega | (simp only[zb,zq,zh];omega) | exact qat a.flat | (exact⟨by omega,by omega⟩)),(by first | omega | (simp only[zb,zq,zh];omega) | exact qat a.flat | (exact⟨by omega,by omega⟩)),trivial⟩
 ·skip
  rcases ze (a.epoch != x.epoch) with h2 | h2
  ·skip
   have hs:qaF x a=false:=by grind[qaF]
   rw[hs];rw[show (acc++(bif false then [] else [a])).map Cell.e=acc.map Cell.e++[a.e] from by simp];exact qzv ⟨hj1,(by first | omega | (simp only[zb,zq,zh];omega) | exact qat a.flat | (exact⟨by omega,by omega⟩)),(by first | omega | (simp only[zb,zq,zh];omega) | exact qat a.flat | (exact⟨by omega,by omega⟩)),(qad Cell.e hk1),h1,(by first | omega | (simp only[zb,zq,zh];omega) | exact qat a.flat | (exact⟨by omega,by omega⟩)),(by first | omega | (simp only[zb,zq,zh];omega) | exact qat a.flat | (exact⟨by omega,by omega⟩)),(qad Cell.e hk1),h2,(by first | omega | (simp only[zb,zq,zh];omega) | exact qat a.flat | (exact⟨by omega,by omega⟩)),(by first | omega | (simp only[zb,zq,zh];omega) | exact qat a.flat | (exact⟨by omega,by omega⟩)),(qad Cell.e hk1),(by first | omega | (simp only[zb,zq,zh];omega) | exact qat a.flat | (exact⟨by omega,by omega⟩)),(by first | omega | (simp only[zb,zq,zh];omega) | exact qat a.flat | (exact⟨by omega,by omega⟩)),(by first | omega | (simp only[zb,zq,zh];omega) | exact qat a.flat | (exact⟨by omega,by omega⟩)),(by first | omega | (simp only[zb,zq,zh];omega) | exact qat a.flat | (exact⟨by omega,by omega⟩)),trivial⟩
  ·skip
   rcases ze (a.key != x.key) with h3 | h3
   ·skip
    have hs:qaF x a=false:=by grind[qaF]
    rw[hs];rw[show (acc++(bif false then [] else [a])).map Cell.e=acc.map Cell.e++[a.e] from by simp];exact qzw ⟨hj1,(by first | omega | (simp only[zb,zq,zh];omega) | exact qat a.flat | (exact⟨by omega,by omega⟩)),(by first | omega | (simp only[zb,zq,zh];omega) | exact qat a.flat | (exact⟨by omega,by omega⟩)),(qad Cell.e hk1),h1,(by first | omega | (simp only[zb,zq,zh];omega) | exact qat a.flat | (exact⟨by omega,by omega⟩)),(by first | omega | (simp only[zb,zq,zh];omega) | exact qat a.flat | (exact⟨by omega,by omega⟩)),(qad Cell.e hk1),h2,(by first | omega | (simp only[zb,zq,zh];omega) | exact qat a.flat | (exact⟨by omega,by omega⟩)),(by first | omega | (simp only[zb,zq,zh];omega) | exact qat a.flat | (exact⟨by omega,by omega⟩)),(qad Cell.e hk1),h3,(by first | omega | (simp only[zb,zq,zh];omega) | exact qat a.flat | (exact⟨by omega,by omega⟩)),(by first | omega | (simp only[zb,zq,zh];omega) | exact qat a.flat | (exact⟨by omega,by omega⟩)),(qad Cell.e hk1),(by first | omega | (simp only[zb,zq,zh];omega) | exact qat a.flat | (exact⟨by omega,by omega⟩)),(by first | omega | (simp only[zb,zq,zh];omega) | exact qat a.flat | (exact⟨by omega,by omega⟩)),(by first | omega | (simp only[zb,zq,zh];omega) | exact qat a.flat | (exact⟨by omega,by omega⟩)),(by first | omega | (simp only[zb,zq,zh];omega) | exact qat a.flat | (exact⟨by omega,by omega⟩)),trivial⟩
   ·skip
    have hs:qaF x a=true:=by grind[qaF]
    rw[hs];rw[show (acc++(bif true then [] else [a])).map Cell.e=acc.map Cell.e from by simp];exact qzx ⟨hj1,(by first | omega | (simp only[zb,zq,zh];omega) | exact qat a.flat | (exact⟨by omega,by omega⟩)),(by first | omega | (simp only[zb,zq,zh];omega) | exact qat a.flat | (exact⟨by omega,by omega⟩)),(qad Cell.e hk1),h1,(by first | omega | (simp only[zb,zq,zh];omega) | exact qat a.flat | (exact⟨by omega,by omega⟩)),(by first | omega | (simp only[zb,zq,zh];omega) | exact qat a.flat | (exact⟨by omega,by omega⟩)),(qad Cell.e hk1),h2,(by first | omega | (simp only[zb,zq,zh];omega) | exact qat a.flat | (exact⟨by omega,by omega⟩)),(by first | omega | (simp only[zb,zq,zh];omega) | exact qat a.flat | (exact⟨by omega,by omega⟩)),(qad Cell.e hk1),h3,(by first | omega | (simp only[zb,zq,zh];omega) | exact qat a.flat | (exact⟨by omega,by omega⟩)),trivial⟩
theorem qIG(p:Cell→Bool){xs:List Cell}{i:Nat}{a:Cell}(h:xs[i]?=some a):(xs.take (i+1)).filter (fun b=>!p b)=(xs.take i).filter (fun b=>!p b)++(bif p a then [] else [a]):=by
 rw[qeY _ h];cases p a<;>rfl
theorem qjT(xs:List Cell)(x:Cell)(hl:xs.length≤8388608):qam prog (qaa f295 0) (qbX (xs.map Cell.e) x.op x.epoch x.key x.val 0 []) (.exit 1) (qgj x.op x.epoch x.key x.val ((xs.filter fun a=>!qaF x a).map Cell.e)):=by
 have l:=qao (P:=prog) (c:=(qaa f295 0)) (qaf 1) xs.length (fun i:Nat=>qbX (xs.map Cell.e) x.op x.epoch x.key x.val i (((xs.take i).filter fun a=>!qaF x a).map Cell.e)) (fun i hi=>by
  obtain⟨a,ha⟩:=qal hi;rw[qIG (qaF x) ha];exact qIF xs _ x hl i (qju _ xs i) a ha) (qzy ⟨ge1,trivial⟩)
 rw[zC]at l;exact l
theorem qrI(kind:Int)(xs:List Cell)(x:Cell)(hl:xs.length≤8388608):Rt 295 [.one (I kind),.one (.sl 4 (xs.map Cell.e)),.agg x.e] [.one (.sl 4 (((qaj kind xs x).1).map Cell.e)),.one (B ((qaj kind xs x).2))]:=by
 have hf:=zat (fun a=>!qaF x a) xs;rcases ze (kind==6) with h1 | h1
 ·skip
  have c2:=qqI xs x (by omega);rcases ze (qci xs x) with h3 | h3
  ·skip
   rw[show qaj kind xs x=(xs,false) from by grind[qaj,qba]];exact qzr ⟨(by first | omega | (simp only[zb,zh];omega) | exact qae _ Cell.flat _ | grind[inInt]),(by first | omega | (simp only[zb,zh];omega) | exact qae _ Cell.flat _ | grind[inInt]),(by first | omega | (simp only[zb,zh];omega) | exact qae _ Cell.flat _ | grind[inInt]),h1,c2,h3,trivial⟩
  ·skip
   have c4:=qhA xs x (by omega);rw[show qaj kind xs x=((qbD xs x),true) from by grind[qaj,qba]];exact qzs ⟨(by first | omega | (simp only[zb,zh];omega) | exact qae _ Cell.flat _ | grind[inInt]),(by first | omega | (simp only[zb,zh];omega) | exact qae _ Cell.flat _ | grind[inInt]),(by first | omega | (simp only[zb,zh];omega) | exact qae _ Cell.flat _ | grind[inInt]),h1,c2,h3,c4,trivial⟩
 ·skip
  rcases ze (kind==5) with h5 | h5
  ·skip
   have c6:=qqZ xs x.op x.epoch x.key (by omega);rcases ze ((qcJ xs x.op x.epoch x.key).2) with h7 | h7
   ·skip
    rcases ze (decide (((qcJ xs x.op x.epoch x.key).1)≤x.val)) with h8 | h8
    ·skip
     rw[show qaj kind xs x=(xs,false) from by grind[qaj,qba]];exact qzt ⟨(by first | omega | (simp only[zb,zh];omega) | exact qae _ Cell.flat _ | grind[inInt]),(by first | omega | (simp only[zb,zh];omega) | exact qae _ Cell.flat _ | grind[inInt]),(by first | omega | (simp only[zb,zh];omega) | exact qae _ Cell.flat _ | grind[inInt]),h1,h5,h5,c6,h7,h8,trivial⟩
    ·skip
     
     have c9:=qhA (xs.filter fun a=>!qaF x a) x (by omega);rw[show qaj kind xs x=((qbD (xs.filter fun a=>!qaF x a) x),true) from by grind[qaj,qba]];exact qzz ⟨(by first | omega | (simp only[zb,zh];omega) | exact qae _ Cell.flat _ | grind[inInt]),(by first | omega | (simp only[zb,zh];omega) | exact qae _ Cell.flat _ | grind[inInt]),(by first | omega | (simp only[zb,zh];omega) | exact qae _ Cell.flat _ | grind[inInt]),h1,h5,h5,c6,h7,h8,(qjT xs x hl),c9,trivial⟩
   ·skip
    
    have c10:=qhA (xs.filter fun a=>!qaF x a) x (by omega);rw[show qaj kind xs x=((qbD (xs.filter fun a=>!qaF x a) x),true) from by grind[qaj,qba]];exact qzA ⟨(by first | omega | (simp only[zb,zh];omega) | exact qae _ Cell.flat _ | grind[inInt]),(by first | omega | (simp only[zb,zh];omega) | exact qae _ Cell.flat _ | grind[inInt]),(by first | omega | (simp only[zb,zh];omega) | exact qae _ Cell.flat _ | grind[inInt]),h1,h5,h5,c6,h7,(qjT xs x hl),c10,trivial⟩
  ·skip
   rcases ze (kind==8) with h11 | h11
   ·skip
    have c12:=qqZ xs x.op x.epoch x.key (by omega);rcases ze ((qcJ xs x.op x.epoch x.key).2) with h13 | h13
    ·skip
     rcases ze (decide (((qcJ xs x.op x.epoch x.key).1)≤x.val)) with h14 | h14
     ·skip
      rw[show qaj kind xs x=(xs,false) from by grind[qaj,qba]];exact qzB ⟨(by first | omega | (simp only[zb,zh];omega) | exact qae _ Cell.flat _ | grind[inInt]),(by first | omega | (simp only[zb,zh];omega) | exact qae _ Cell.flat _ | grind[inInt]),(by first | omega | (simp only[zb,zh];omega) | exact qae _ Cell.flat _ | grind[inInt]),h1,h5,h11,c12,h13,h14,trivial⟩
     ·skip
      
      have c15:=qhA (xs.filter fun a=>!qaF x a) x (by omega);rw[show qaj kind xs x=((qbD (xs.filter fun a=>!qaF x a) x),true) from by grind[qaj,qba]];exact qzC ⟨(by first | omega | (simp only[zb,zh];omega) | exact qae _ Cell.flat _ | grind[inInt]),(by first | omega | (simp only[zb,zh];omega) | exact qae _ Cell.flat _ | grind[inInt]),(by first | omega | (simp only[zb,zh];omega) | exact qae _ Cell.flat _ | grind[inInt]),h1,h5,h11,c12,h13,h14,(qjT xs x hl),c15,trivial⟩
    ·skip
     
     have c16:=qhA (xs.filter fun a=>!qaF x a) x (by omega);rw[show qaj kind xs x=((qbD (xs.filter fun a=>!qaF x a) x),true) from by grind[qaj,qba]];exact qzD ⟨(by first | omega | (simp only[zb,zh];omega) | exact qae _ Cell.flat _ | grind[inInt]),(by first | omega | (simp only[zb,zh];omega) | exact qae _ Cell.flat _ | grind[inInt]),(by first | omega | (simp only[zb,zh];omega) | exact qae _ Cell.flat _ | grind[inInt]),h1,h5,h11,c12,h13,(qjT xs x hl),c16,trivial⟩
   ·skip
    rw[show qaj kind xs x=(xs,true) from by grind[qaj,qba]];exact qzE ⟨(by first | omega | (simp only[zb,zh];omega) | exact qae _ Cell.flat _ | grind[inInt]),(by first | omega | (simp only[zb,zh];omega) | exact qae _ Cell.flat _ | grind[inInt]),(by first | omega | (simp only[zb,zh];omega) | exact qae _ Cell.flat _ | grind[inInt]),h1,h5,h11,trivial⟩
def sends(x:Node)(s:Stamp)(key val:Int):List Record:=x.outs.map fun k=>⟨k,s,key,val⟩
def cellOf(r:Record):Cell:=⟨r.op,r.stamp.epoch,r.key,r.val⟩
def qas(g:Graph)(cs:List Cell)(r:Record)(x:Node):List Cell×List Record×Bool:=
 if qaw g&&qaB r then
  if !(qak x r.key r.val).2.2&&x.kind != 8 then (cs,[],true)
  else if !(qaj x.kind cs ⟨r.op,r.stamp.epoch,r.key,r.val⟩).2 then ((qaj x.kind cs ⟨r.op,r.stamp.epoch,r.key,r.val⟩).1,[],true)
  else if x.kind=7 then
   ((qaj x.kind cs ⟨r.op,r.stamp.epoch,r.key,r.val⟩).1,(bif (qaG r.stamp).2 then sends x (qaG r.stamp).1 (qak x r.key r.val).1 (qak x r.key r.val).2.1 else []),true)
  else ((qaj x.kind cs ⟨r.op,r.stamp.epoch,r.key,r.val⟩).1,sends x r.stamp (qak x r.key r.val).1 (qak x r.key r.val).2.1,true)
 else (cs,[],false)
theorem qgy(x:Node)(s:Stamp)(key val:Int){i:Nat}{k:Int}(h:x.outs[i]?=some k):(((x.outs.take (i+1)).map fun k=>(⟨k,s,key,val⟩:Record)).map Record.e)=(((x.outs.take i).map fun k=>(⟨k,s,key,val⟩:Record)).map Record.e)++[(⟨k,s,key,val⟩:Record).e]:=by
 simp[zbe,h]
theorem qrK(x:Node)(hx:x.outs.length≤8388608)(s:Stamp)(key val:Int)(nx:List (List D)):qam prog (qaa f209 0) (qfs x.kind x.a x.b (x.outs.map eI) key val nx s.epoch s.turn 0 []) (.exit 0) (qes nx ((sends x s key val).map Record.e)):=by
 have l:=qao (P:=prog) (c:=(qaa f209 0)) (qaf 0) x.outs.length (fun i:Nat=>qfs x.kind x.a x.b (x.outs.map eI) key val nx s.epoch s.turn i (((x.outs.take i).map fun k=>(⟨k,s,key,val⟩:Record)).map Record.e)) (fun i hi=>by
  obtain⟨k,hk⟩:=qal hi;rw[qgy x s key val hk];exact qH1 ⟨lt1 hi,lt0,lt2 hi,qac eI hk,by simp;omega,by simp;omega,qat (Record.flat ⟨k,s,key,val⟩),up1 hi hx,trivial⟩) (qH2 ⟨ge1,trivial⟩)
 rw[zC]at l;exact l
theorem qrL(x:Node)(hx:x.outs.length≤8388608)(s:Stamp)(key val:Int)(nx:List (List D)):qam prog (qaa f209 0) (qft s.epoch s.turn x.kind x.a x.b (x.outs.map eI) key val nx 0 []) (.exit 0) (qes nx ((sends x s key val).map Record.e)):=by
 have l:=qao (P:=prog) (c:=(qaa f209 0)) (qaf 0) x.outs.length (fun i:Nat=>qft s.epoch s.turn x.kind x.a x.b (x.outs.map eI) key val nx i (((x.outs.take i).map fun k=>(⟨k,s,key,val⟩:Record)).map Record.e)) (fun i hi=>by
  obtain⟨k,hk⟩:=qal hi;rw[qgy x s key val hk];exact qH4 ⟨lt1 hi,lt0,lt2 hi,qac eI hk,by simp;omega,by simp;omega,qat (Record.flat ⟨k,s,key,val⟩),up1 hi hx,trivial⟩) (qH5 ⟨ge1,trivial⟩)
 rw[zC]at l;exact l
theorem qrM(x:Node)(hx:x.outs.length≤8388608)(s:Stamp)(key val:Int)(nx:List (List D)):qam prog (qaa f209 0) (qfu nx x.kind x.a x.b (x.outs.map eI) key val s.epoch s.turn 0 []) (.exit 0) (qet nx ((sends x s key val).map Record.e)):=by
 have l:=qao (P:=prog) (c:=(qaa f209 0)) (qaf 0) x.outs.length (fun i:Nat=>qfu nx x.kind x.a x.b (x.outs.map eI) key val s.epoch s.turn i (((x.outs.take i).map fun k=>(⟨k,s,key,val⟩:Record)).map Record.e)) (fun i hi=>by
  obtain⟨k,hk⟩:=qal hi;rw[qgy x s key val hk];exact qH8 ⟨lt1 hi,lt0,lt2 hi,qac eI hk,by simp;omega,by simp;omega,qat (Record.flat ⟨k,s,key,val⟩),up1 hi hx,trivial⟩) (qH9 ⟨ge1,trivial⟩)
 rw[zC]at l;exact l
theorem qrN(x:Node)(hx:x.outs.length≤8388608)(s:Stamp)(key val:Int)(nx:List (List D)):qam prog (qaa f209 0) (qfv nx s.epoch s.turn x.kind x.a x.b (x.outs.map eI) key val 0 []) (.exit 0) (qet nx ((sends x s key val).map Record.e)):=by
 have l:=qao (P:=prog) (c:=(qaa f209 0)) (qaf 0) x.outs.length (fun i:Nat=>qfv nx s.epoch s.turn x.kind x.a x.b (x.outs.map eI) key val i (((x.outs.take i).map fun k=>(⟨k,s,key,val⟩:Record)).map Record.e)) (fun i hi=>by
  obtain⟨k,hk⟩:=qal hi;rw[qgy x s key val hk];exact qIb ⟨lt1 hi,lt0,lt2 hi,qac eI hk,by simp;omega,by simp;omega,qat (Record.flat ⟨k,s,key,val⟩),up1 hi hx,trivial⟩) (qIc ⟨ge1,trivial⟩)
 rw[zC]at l;exact l
theorem qIH(g:Graph)(cs:List Cell)(r:Record)(x:Node)(hg:g.sz≤8388608)(hl:cs.length≤8388608)(hn:qaP g r.op=some x):Rt 209 [.agg g.e,.one (.sl 4 (cs.map Cell.e)),.agg r.e] [.one (.sl 4 ((qas g cs r x).1.map Cell.e)),.one (.sl 5 ((qas g cs r x).2.1.map Record.e)),.one (B (qas g cs r x).2.2)]:=by
 have hx:=Graph.outs_le hg (qmt hn);obtain⟨hk0,hk2,_,_⟩:=qjz hn;have hk1:g.nodes[r.op.toNat]?=some x:=by have:=hn;unfold qaP at this;rwa[zp hk0]at this
 have c1:=qjB g r.op (x,true) (by unfold qeh;rw[hn]) hg;have c2:=qjC g hg;rcases ze (qaw g) with h3 | h3
 ·skip
  have c4:=qdQ r;rcases ze (qaB r) with h5 | h5
  ·skip
   have c6:=qDF x r.key r.val hx;rcases ze ((qak x r.key r.val).2.2) with h7 | h7
   ·skip
    have c8:=qrG x.kind;rcases ze (qaX x.kind) with h9 | h9
    ·skip
     have c10:=qrI x.kind cs (⟨r.op,r.stamp.epoch,r.key,r.val⟩:Cell) (by omega);rcases ze ((qaj x.kind cs (⟨r.op,r.stamp.epoch,r.key,r.val⟩:Cell)).2) with h11 | h11
     ·skip
      rcases ze (x.kind==7) with h12 | h12
      ·skip
       have c13:=qgl r.stamp;rcases ze ((qaG r.stamp).2) with h14 | h14
       ·skip
        
        rw[show qas g cs r x=(((qaj x.kind cs (⟨r.op,r.stamp.epoch,r.key,r.val⟩:Cell)).1),(sends x ((qaG r.stamp).1) ((qak x r.key r.val).1) ((qak x r.key r.val).2.1)),true) from by grind[qas,qaX,qaj]];exact qIg ⟨(by first | omega | (simp only[zb,zh];omega) | exact qae _ Cell.flat _ | grind[inInt]),(by first | omega | (simp only[zb,zh];omega) | exact qae _ Cell.flat _ | grind[inInt]),(by first | omega | (simp only[zb,zh];omega) | exact qae _ Cell.flat _ | grind[inInt]),c1,rfl,c2,(by rw[h3];rfl),c4,(by rw[h5];rfl),c6,(by rw[h7];rfl),c8,h9,c10,(by rw[h11];rfl),h12,c13,(by rw[h14];rfl),(qrK x hx ((qaG r.stamp).1) ((qak x r.key r.val).1) ((qak x r.key r.val).2.1) _),trivial⟩
       ·skip
        rw[show qas g cs r x=(((qaj x.kind cs (⟨r.op,r.stamp.epoch,r.key,r.val⟩:Cell)).1),([]:List Record),true) from by grind[qas,qaX,qaj]];exact qIf ⟨(by first | omega | (simp only[zb,zh];omega) | exact qae _ Cell.flat _ | grind[inInt]),(by first | omega | (simp only[zb,zh];omega) | exact qae _ Cell.flat _ | grind[inInt]),(by first | omega | (simp only[zb,zh];omega) | exact qae _ Cell.flat _ | grind[inInt]),c1,rfl,c2,(by rw[h3];rfl),c4,(by rw[h5];rfl),c6,(by rw[h7];rfl),c8,h9,c10,(by rw[h11];rfl),h12,c13,(by rw[h14];rfl),trivial⟩
      ·skip
       
       rw[show qas g cs r x=(((qaj x.kind cs (⟨r.op,r.stamp.epoch,r.key,r.val⟩:Cell)).1),(sends x r.stamp ((qak x r.key r.val).1) ((qak x r.key r.val).2.1)),true) from by grind[qas,qaX,qaj]];exact qIh ⟨(by first | omega | (simp only[zb,zh];omega) | exact qae _ Cell.flat _ | grind[inInt]),(by first | omega | (simp only[zb,zh];omega) | exact qae _ Cell.flat _ | grind[inInt]),(by first | omega | (simp only[zb,zh];omega) | exact qae _ Cell.flat _ | grind[inInt]),c1,rfl,c2,(by rw[h3];rfl),c4,(by rw[h5];rfl),c6,(by rw[h7];rfl),c8,h9,c10,(by rw[h11];rfl),h12,(qrL x hx r.stamp ((qak x r.key r.val).1) ((qak x r.key r.val).2.1) _),trivial⟩
     ·skip
      rw[show qas g cs r x=(((qaj x.kind cs (⟨r.op,r.stamp.epoch,r.key,r.val⟩:Cell)).1),([]:List Record),true) from by grind[qas,qaX,qaj]];exact qIe ⟨(by first | omega | (simp only[zb,zh];omega) | exact qae _ Cell.flat _ | grind[inInt]),(by first | omega | (simp only[zb,zh];omega) | exact qae _ Cell.flat _ | grind[inInt]),(by first | omega | (simp only[zb,zh];omega) | exact qae _ Cell.flat _ | grind[inInt]),c1,rfl,c2,(by rw[h3];rfl),c4,(by rw[h5];rfl),c6,(by rw[h7];rfl),c8,h9,c10,(by rw[h11];rfl),trivial⟩
    ·skip
     rcases ze (x.kind==7) with h15 | h15
     ·skip
      have c16:=qgl r.stamp;rcases ze ((qaG r.stamp).2) with h17 | h17
      ·skip
       
       rw[show qas g cs r x=(cs,(sends x ((qaG r.stamp).1) ((qak x r.key r.val).1) ((qak x r.key r.val).2.1)),true) from by grind[qas,qaX,qaj]];exact qIj ⟨(by first | omega | (simp only[zb,zh];omega) | exact qae _ Cell.flat _ | grind[inInt]),(by first | omega | (simp only[zb,zh];omega) | exact qae _ Cell.flat _ | grind[inInt]),(by first | omega | (simp only[zb,zh];omega) | exact qae _ Cell.flat _ | grind[inInt]),c1,rfl,c2,(by rw[h3];rfl),c4,(by rw[h5];rfl),c6,(by rw[h7];rfl),c8,h9,h15,c16,(by rw[h17];rfl),(qrM x hx ((qaG r.stamp).1) ((qak x r.key r.val).1) ((qak x r.key r.val).2.1) _),trivial⟩
      ·skip
       rw[show qas g cs r x=(cs,([]:List Record),true) from by grind[qas,qaX,qaj]];exact qIi ⟨(by first | omega | (simp only[zb,zh];omega) | exact qae _ Cell.flat _ | grind[inInt]),(by first | omega | (simp only[zb,zh];omega) | exact qae _ Cell.flat _ | grind[inInt]),(by first | omega | (simp only[zb,zh];omega) | exact qae _ Cell.flat _ | grind[inInt]),c1,rfl,c2,(by rw[h3];rfl),c4,(by rw[h5];rfl),c6,(by rw[h7];rfl),c8,h9,h15,c16,(by rw[h17];rfl),trivial⟩
     ·skip
      
      rw[show qas g cs r x=(cs,(sends x r.stamp ((qak x r.key r.val).1) ((qak x r.key r.val).2.1)),true) from by grind[qas,qaX,qaj]];exact qIk ⟨(by first | omega | (simp only[zb,zh];omega) | exact qae _ Cell.flat _ | grind[inInt]),(by first | omega | (simp only[zb,zh];omega) | exact qae _ Cell.flat _ | grind[inInt]),(by first | omega | (simp only[zb,zh];omega) | exact qae _ Cell.flat _ | grind[inInt]),c1,rfl,c2,(by rw[h3];rfl),c4,(by rw[h5];rfl),c6,(by rw[h7];rfl),c8,h9,h15,(qrN x hx r.stamp ((qak x r.key r.val).1) ((qak x r.key r.val).2.1) _),trivial⟩
   ·skip
    rcases ze (x.kind != 8) with h18 | h18
    ·skip
     rw[show qas g cs r x=(cs,([]:List Record),true) from by grind[qas,qaX,qaj]];exact qHY ⟨(by first | omega | (simp only[zb,zh];omega) | exact qae _ Cell.flat _ | grind[inInt]),(by first | omega | (simp only[zb,zh];omega) | exact qae _ Cell.flat _ | grind[inInt]),(by first | omega | (simp only[zb,zh];omega) | exact qae _ Cell.flat _ | grind[inInt]),c1,rfl,c2,(by rw[h3];rfl),c4,(by rw[h5];rfl),c6,(by rw[h7];rfl),h18,trivial⟩
    ·skip
     have c19:=qrG x.kind;rcases ze (qaX x.kind) with h20 | h20
     ·skip
      have c21:=qrI x.kind cs (⟨r.op,r.stamp.epoch,r.key,r.val⟩:Cell) (by omega);rcases ze ((qaj x.kind cs (⟨r.op,r.stamp.epoch,r.key,r.val⟩:Cell)).2) with h22 | h22
      ·skip
       rcases ze (x.kind==7) with h23 | h23
       ·skip
        have c24:=qgl r.stamp;rcases ze ((qaG r.stamp).2) with h25 | h25
        ·skip
         
         rw[show qas g cs r x=(((qaj x.kind cs (⟨r.op,r.stamp.epoch,r.key,r.val⟩:Cell)).1),(sends x ((qaG r.stamp).1) ((qak x r.key r.val).1) ((qak x r.key r.val).2.1)),true) from by grind[qas,qaX,qaj]];exact qH3 ⟨(by first | omega | (simp only[zb,zh];omega) | exact qae _ Cell.flat _ | grind[inInt]),(by first | omega | (simp only[zb,zh];omega) | exact qae _ Cell.flat _ | grind[inInt]),(by first | omega | (simp only[zb,zh];omega) | exact qae _ Cell.flat _ | grind[inInt]),c1,rfl,c2,(by rw[h3];rfl),c4,(by rw[h5];rfl),c6,(by rw[h7];rfl),h18,c19,h20,c21,(by rw[h22];rfl),h23,c24,(by rw[h25];rfl),(qrK x hx ((qaG r.stamp).1) ((qak x r.key r.val).1) ((qak x r.key r.val).2.1) _),trivial⟩
        ·skip
         rw[show qas g cs r x=(((qaj x.kind cs (⟨r.op,r.stamp.epoch,r.key,r.val⟩:Cell)).1),([]:List Record),true) from by grind[qas,qaX,qaj]];exact qH0 ⟨(by first | omega | (simp only[zb,zh];omega) | exact qae _ Cell.flat _ | grind[inInt]),(by first | omega | (simp only[zb,zh];omega) | exact qae _ Cell.flat _ | grind[inInt]),(by first | omega | (simp only[zb,zh];omega) | exact qae _ Cell.flat _ | grind[inInt]),c1,rfl,c2,(by rw[h3];rfl),c4,(by rw[h5];rfl),c6,(by rw[h7];rfl),h18,c19,h20,c21,(by rw[h22];rfl),h23,c24,(by rw[h25];rfl),trivial⟩
       ·skip
        
        rw[show qas g cs r x=(((qaj x.kind cs (⟨r.op,r.stamp.epoch,r.key,r.val⟩:Cell)).1),(sends x r.stamp ((qak x r.key r.val).1) ((qak x r.key r.val).2.1)),true) from by grind[qas,qaX,qaj]];exact qH6 ⟨(by first | omega | (simp only[zb,zh];omega) | exact qae _ Cell.flat _ | grind[inInt]),(by first | omega | (simp only[zb,zh];omega) | exact qae _ Cell.flat _ | grind[inInt]),(by first | omega | (simp only[zb,zh];omega) | exact qae _ Cell.flat _ | grind[inInt]),c1,rfl,c2,(by rw[h3];rfl),c4,(by rw[h5];rfl),c6,(by rw[h7];rfl),h18,c19,h20,c21,(by rw[h22];rfl),h23,(qrL x hx r.stamp ((qak x r.key r.val).1) ((qak x r.key r.val).2.1) _),trivial⟩
      ·skip
       rw[show qas g cs r x=(((qaj x.kind cs (⟨r.op,r.stamp.epoch,r.key,r.val⟩:Cell)).1),([]:List Record),true) from by grind[qas,qaX,qaj]];exact qHZ ⟨(by first | omega | (simp only[zb,zh];omega) | exact qae _ Cell.flat _ | grind[inInt]),(by first | omega | (simp only[zb,zh];omega) | exact qae _ Cell.flat _ | grind[inInt]),(by first | omega | (simp only[zb,zh];omega) | exact qae _ Cell.flat _ | grind[inInt]),c1,rfl,c2,(by rw[h3];rfl),c4,(by rw[h5];rfl),c6,(by rw[h7];rfl),h18,c19,h20,c21,(by rw[h22];rfl),trivial⟩
     ·skip
      rcases ze (x.kind==7) with h26 | h26
      ·skip
       have c27:=qgl r.stamp;rcases ze ((qaG r.stamp).2) with h28 | h28
       ·skip
        
        rw[show qas g cs r x=(cs,(sends x ((qaG r.stamp).1) ((qak x r.key r.val).1) ((qak x r.key r.val).2.1)),true) from by grind[qas,qaX,qaj]];exact qIa ⟨(by first | omega | (simp only[zb,zh];omega) | exact qae _ Cell.flat _ | grind[inInt]),(by first | omega | (simp only[zb,zh];omega) | exact qae _ Cell.flat _ | grind[inInt]),(by first | omega | (simp only[zb,zh];omega) | exact qae _ Cell.flat _ | grind[inInt]),c1,rfl,c2,(by rw[h3];rfl),c4,(by rw[h5];rfl),c6,(by rw[h7];rfl),h18,c19,h20,h26,c27,(by rw[h28];rfl),(qrM x hx ((qaG r.stamp).1) ((qak x r.key r.val).1) ((qak x r.key r.val).2.1) _),trivial⟩
       ·skip
        rw[show qas g cs r x=(cs,([]:List Record),true) from by grind[qas,qaX,qaj]];exact qH7 ⟨(by first | omega | (simp only[zb,zh];omega) | exact qae _ Cell.flat _ | grind[inInt]),(by first | omega | (simp only[zb,zh];omega) | exact qae _ Cell.flat _ | grind[inInt]),(by first | omega | (simp only[zb,zh];omega) | exact qae _ Cell.flat _ | grind[inInt]),c1,rfl,c2,(by rw[h3];rfl),c4,(by rw[h5];rfl),c6,(by rw[h7];rfl),h18,c19,h20,h26,c27,(by rw[h28];rfl),trivial⟩
      ·skip
       
       rw[show qas g cs r x=(cs,(sends x r.stamp ((qak x r.key r.val).1) ((qak x r.key r.val).2.1)),true) from by grind[qas,qaX,qaj]];exact qId ⟨(by first | omega | (simp only[zb,zh];omega) | exact qae _ Cell.flat _ | grind[inInt]),(by first | omega | (simp only[zb,zh];omega) | exact qae _ Cell.flat _ | grind[inInt]),(by first | omega | (simp only[zb,zh];omega) | exact qae _ Cell.flat _ | grind[inInt]),c1,rfl,c2,(by rw[h3];rfl),c4,(by rw[h5];rfl),c6,(by rw[h7];rfl),h18,c19,h20,h26,(qrN x hx r.stamp ((qak x r.key r.val).1) ((qak x r.key r.val).2.1) _),trivial⟩
  ·skip
   rw[show qas g cs r x=(cs,([]:List Record),false) from by grind[qas,qaX,qaj]];exact qHX ⟨(by first | omega | (simp only[zb,zh];omega) | exact qae _ Cell.flat _ | grind[inInt]),(by first | omega | (simp only[zb,zh];omega) | exact qae _ Cell.flat _ | grind[inInt]),(by first | omega | (simp only[zb,zh];omega) | exact qae _ Cell.flat _ | grind[inInt]),c1,rfl,c2,(by rw[h3];rfl),c4,(by rw[h5];rfl),trivial⟩
 ·skip
  rw[show qas g cs r x=(cs,([]:List Record),false) from by grind[qas,qaX,qaj]];exact qHW ⟨(by first | omega | (simp only[zb,zh];omega) | exact qae _ Cell.flat _ | grind[inInt]),(by first | omega | (simp only[zb,zh];omega) | exact qae _ Cell.flat _ | grind[inInt]),(by first | omega | (simp only[zb,zh];omega) | exact qae _ Cell.flat _ | grind[inInt]),c1,rfl,c2,(by rw[h3];rfl),trivial⟩
