import Derived.Test.YtdchjefneblpgaaGreatP15
import Derived.Test.YtdchjefneblpgaaGreatGS
import Derived.Test.YtdchjefneblpgaaGreatQ3
import Derived.Test.YtdchjefneblpgaaGreatGU
set_option linter.unusedVariables false
set_option linter.unusedSimpArgs false
namespace Go.Proofs.YtdchjefneblpgaaGreat
open Go.Sx Go.RowKit Go.Proofs.Tryz
def io(k:Int):Bool:=k==5||k==6||k==8
def k8(xs:List Cell)(x:Cell):List Cell×Bool:=
 if (rF xs x.op x.a8 x.key).2&&decide ((rF xs x.op x.a8 x.key).1<=x.val) then (xs,false) else (kk (xs.filter fun a=>!fT x a) x,true)
def cR(kind:Int)(xs:List Cell)(x:Cell):List Cell×Bool:=
 if kind=6 then (if nQ xs x then (xs,false) else (kk xs x,true))
 else if kind=5\/kind=8 then k8 xs x
 else (xs,true)
theorem RZ(k:Int):aK 268 [.one (I k)] [.one (B (io k))]:=by
 rcases dN (k==5) with h1 | h1
 ·skip
  rw[show io k=true from by grind[io]];exact anO ⟨h1,aj⟩
 skip
 rcases dN (k==6) with U | U
 ·skip
  rw[show io k=true from by grind[io]];exact anP ⟨h1,U,aj⟩
 skip
 rw[show io k=(k==8) from by grind[io]];exact anQ ⟨h1,U,aj⟩
theorem acX(xs acc:List Cell)(x:Cell)(af:xs.length<=8388608)(i:Nat)(ad:acc.length<=i)(a:Cell)(ag:xs[i]?=some a):fP prog (az f269 0) (lA (xs.map Cell.e) x.op x.a8 x.key x.val i (acc.map Cell.e)) .normal (lA (xs.map Cell.e) x.op x.a8 x.key x.val ((i+1:Nat):Int) ((acc++(bif fT x a then [] else [a])).map Cell.e)):=by
 have aM:=bh ag;have fx:xs[(i:Int).toNat]?=some a:=by simpa using ag
 have g':decide ((i:Int)<(↑(xs.map Cell.e).length:Int))=true:=cg aM;rcases dN (a.op != x.op) with h1 | h1
 ·skip
  have ae:fT x a=false:=by grind[fT]
  rw[ae];rw[show (acc++(bif false then [] else [a])).map Cell.e=acc.map Cell.e++[a.e] from by simp];exact ani ⟨g',(by first | omega | (simp only[bp,dn,b1];omega) | exact dk a.flat | (exact⟨by omega,by omega⟩)),(by first | omega | (simp only[bp,dn,b1];omega) | exact dk a.flat | (exact⟨by omega,by omega⟩)),(eP Cell.e fx),h1,(by first | omega | (simp only[bp,dn,b1];omega) | exact dk a.flat | (exact⟨by omega,by omega⟩)),(by first | omega | (simp only[bp,dn,b1];omega) | exact dk a.flat | (exact⟨by omega,by omega⟩)),(eP Cell.e fx),(by first | omega | (simp only[bp,dn,b1];omega) | exact dk a.flat | (exact⟨by omega,by omega⟩)),(by first | omega | (simp only[bp,dn,b1];omega) | exact dk a.flat | (exact⟨by omega,by omega⟩)),(by first | omega | (simp only[bp,dn,b1];omega) | exact dk a.flat | (exact⟨by omega,by omega⟩)),(by first | omega | (simp only[bp,dn,b1];omega) | exact dk a.flat | (exact⟨by omega,by omega⟩)),aj⟩
 skip
 rcases dN (a.a8 != x.a8) with U | U
 ·skip
  have ae:fT x a=false:=by grind[fT]
  rw[ae];rw[show (acc++(bif false then [] else [a])).map Cell.e=acc.map Cell.e++[a.e] from by simp];exact anj ⟨g',(by first | omega | (simp only[bp,dn,b1];omega) | exact dk a.flat | (exact⟨by omega,by omega⟩)),(by first | omega | (simp only[bp,dn,b1];omega) | exact dk a.flat | (exact⟨by omega,by omega⟩)),(eP Cell.e fx),h1,(by first | omega | (simp only[bp,dn,b1];omega) | exact dk a.flat | (exact⟨by omega,by omega⟩)),(by first | omega | (simp only[bp,dn,b1];omega) | exact dk a.flat | (exact⟨by omega,by omega⟩)),(eP Cell.e fx),U,(by first | omega | (simp only[bp,dn,b1];omega) | exact dk a.flat | (exact⟨by omega,by omega⟩)),(by first | omega | (simp only[bp,dn,b1];omega) | exact dk a.flat | (exact⟨by omega,by omega⟩)),(eP Cell.e fx),(by first | omega | (simp only[bp,dn,b1];omega) | exact dk a.flat | (exact⟨by omega,by omega⟩)),(by first | omega | (simp only[bp,dn,b1];omega) | exact dk a.flat | (exact⟨by omega,by omega⟩)),(by first | omega | (simp only[bp,dn,b1];omega) | exact dk a.flat | (exact⟨by omega,by omega⟩)),(by first | omega | (simp only[bp,dn,b1];omega) | exact dk a.flat | (exact⟨by omega,by omega⟩)),aj⟩
 skip
 rcases dN (a.key != x.key) with au | au
 ·skip
  have ae:fT x a=false:=by grind[fT]
  rw[ae];rw[show (acc++(bif false then [] else [a])).map Cell.e=acc.map Cell.e++[a.e] from by simp];exact ank ⟨g',(by first | omega | (simp only[bp,dn,b1];omega) | exact dk a.flat | (exact⟨by omega,by omega⟩)),(by first | omega | (simp only[bp,dn,b1];omega) | exact dk a.flat | (exact⟨by omega,by omega⟩)),(eP Cell.e fx),h1,(by first | omega | (simp only[bp,dn,b1];omega) | exact dk a.flat | (exact⟨by omega,by omega⟩)),(by first | omega | (simp only[bp,dn,b1];omega) | exact dk a.flat | (exact⟨by omega,by omega⟩)),(eP Cell.e fx),U,(by first | omega | (simp only[bp,dn,b1];omega) | exact dk a.flat | (exact⟨by omega,by omega⟩)),(by first | omega | (simp only[bp,dn,b1];omega) | exact dk a.flat | (exact⟨by omega,by omega⟩)),(eP Cell.e fx),au,(by first | omega | (simp only[bp,dn,b1];omega) | exact dk a.flat | (exact⟨by omega,by omega⟩)),(by first | omega | (simp only[bp,dn,b1];omega) | exact dk a.flat | (exact⟨by omega,by omega⟩)),(eP Cell.e fx),(by first | omega | (simp only[bp,dn,b1];omega) | exact dk a.flat | (exact⟨by omega,by omega⟩)),(by first | omega | (simp only[bp,dn,b1];omega) | exact dk a.flat | (exact⟨by omega,by omega⟩)),(by first | omega | (simp only[bp,dn,b1];omega) | exact dk a.flat | (exact⟨by omega,by omega⟩)),(by first | omega | (simp only[bp,dn,b1];omega) | exact dk a.flat | (exact⟨by omega,by omega⟩)),aj⟩
 skip
 have ae:fT x a=true:=by grind[fT]
 rw[ae];rw[show (acc++(bif true then [] else [a])).map Cell.e=acc.map Cell.e from by simp];exact anl ⟨g',(by first | omega | (simp only[bp,dn,b1];omega) | exact dk a.flat | (exact⟨by omega,by omega⟩)),(by first | omega | (simp only[bp,dn,b1];omega) | exact dk a.flat | (exact⟨by omega,by omega⟩)),(eP Cell.e fx),h1,(by first | omega | (simp only[bp,dn,b1];omega) | exact dk a.flat | (exact⟨by omega,by omega⟩)),(by first | omega | (simp only[bp,dn,b1];omega) | exact dk a.flat | (exact⟨by omega,by omega⟩)),(eP Cell.e fx),U,(by first | omega | (simp only[bp,dn,b1];omega) | exact dk a.flat | (exact⟨by omega,by omega⟩)),(by first | omega | (simp only[bp,dn,b1];omega) | exact dk a.flat | (exact⟨by omega,by omega⟩)),(eP Cell.e fx),au,(by first | omega | (simp only[bp,dn,b1];omega) | exact dk a.flat | (exact⟨by omega,by omega⟩)),aj⟩
theorem acY(p:Cell->Bool){xs:List Cell}{i:Nat}{a:Cell}(h:xs[i]?=some a):(xs.take (i+1)).filter (fun b=>!p b)=(xs.take i).filter (fun b=>!p b)++(bif p a then [] else [a]):=by
 rw[ua _ h];cases p a<;>rfl
theorem Ex(xs:List Cell)(x:Cell)(af:xs.length<=8388608):dd prog (az f269 0) (lA (xs.map Cell.e) x.op x.a8 x.key x.val 0 []) (.exit 1) (yz x.op x.a8 x.key x.val ((xs.filter fun a=>!fT x a).map Cell.e)):=by
 have l:=ef (P:=prog) (c:=(az f269 0)) (cL 1) xs.length (fun i:Nat=>lA (xs.map Cell.e) x.op x.a8 x.key x.val i (((xs.take i).filter fun a=>!fT x a).map Cell.e)) (fun i hi=>by
  obtain⟨a,ag⟩:=dv hi;rw[acY (fT x) ag];exact acX xs _ x af i (vV _ xs i) a ag) (anm ⟨dH,aj⟩)
 rw[hP]at l;exact l
theorem R0(kind:Int)(xs:List Cell)(x:Cell)(af:xs.length<=8388608):aK 269 [.one (I kind),.one (.J 4 (xs.map Cell.e)),.agg x.e] [.one (.J 4 (((cR kind xs x).1).map Cell.e)),.one (B ((cR kind xs x).2))]:=by
 have bl:=qL (fun a=>!fT x a) xs;rcases dN (kind==6) with h1 | h1
 ·skip
  have c2:=Si xs x (by omega);rcases dN (nQ xs x) with au | au
  ·skip
   rw[show cR kind xs x=(xs,false) from by grind[cR,k8]];exact anR ⟨(by first | omega | (simp only[bp,b1];omega) | exact cn _ Cell.flat _ | grind[bf]),(by first | omega | (simp only[bp,b1];omega) | exact cn _ Cell.flat _ | grind[bf]),(by first | omega | (simp only[bp,b1];omega) | exact cn _ Cell.flat _ | grind[bf]),h1,c2,au,aj⟩
  skip
  have fR:=x6 xs x (by omega);rw[show cR kind xs x=((kk xs x),true) from by grind[cR,k8]];exact ang ⟨(by first | omega | (simp only[bp,b1];omega) | exact cn _ Cell.flat _ | grind[bf]),(by first | omega | (simp only[bp,b1];omega) | exact cn _ Cell.flat _ | grind[bf]),(by first | omega | (simp only[bp,b1];omega) | exact cn _ Cell.flat _ | grind[bf]),h1,c2,au,fR,aj⟩
 skip
 rcases dN (kind==5) with ba | ba
 ·skip
  have kA:=RU xs x.op x.a8 x.key (by omega);rcases dN ((rF xs x.op x.a8 x.key).2) with b7 | b7
  ·skip
   rcases dN (decide (((rF xs x.op x.a8 x.key).1)<=x.val)) with dV | dV
   ·skip
    rw[show cR kind xs x=(xs,false) from by grind[cR,k8]];exact anh ⟨(by first | omega | (simp only[bp,b1];omega) | exact cn _ Cell.flat _ | grind[bf]),(by first | omega | (simp only[bp,b1];omega) | exact cn _ Cell.flat _ | grind[bf]),(by first | omega | (simp only[bp,b1];omega) | exact cn _ Cell.flat _ | grind[bf]),h1,ba,ba,kA,b7,dV,aj⟩
   skip
   
   have Wp:=x6 (xs.filter fun a=>!fT x a) x (by omega);rw[show cR kind xs x=((kk (xs.filter fun a=>!fT x a) x),true) from by grind[cR,k8]];exact ann ⟨(by first | omega | (simp only[bp,b1];omega) | exact cn _ Cell.flat _ | grind[bf]),(by first | omega | (simp only[bp,b1];omega) | exact cn _ Cell.flat _ | grind[bf]),(by first | omega | (simp only[bp,b1];omega) | exact cn _ Cell.flat _ | grind[bf]),h1,ba,ba,kA,b7,dV,(Ex xs x af),Wp,aj⟩
  skip
  
  have xt:=x6 (xs.filter fun a=>!fT x a) x (by omega);rw[show cR kind xs x=((kk (xs.filter fun a=>!fT x a) x),true) from by grind[cR,k8]];exact ano ⟨(by first | omega | (simp only[bp,b1];omega) | exact cn _ Cell.flat _ | grind[bf]),(by first | omega | (simp only[bp,b1];omega) | exact cn _ Cell.flat _ | grind[bf]),(by first | omega | (simp only[bp,b1];omega) | exact cn _ Cell.flat _ | grind[bf]),h1,ba,ba,kA,b7,(Ex xs x af),xt,aj⟩
 skip
 rcases dN (kind==8) with ln | ln
 ·skip
  have ob:=RU xs x.op x.a8 x.key (by omega);rcases dN ((rF xs x.op x.a8 x.key).2) with tE | tE
  ·skip
   rcases dN (decide (((rF xs x.op x.a8 x.key).1)<=x.val)) with lo | lo
   ·skip
    rw[show cR kind xs x=(xs,false) from by grind[cR,k8]];exact anp ⟨(by first | omega | (simp only[bp,b1];omega) | exact cn _ Cell.flat _ | grind[bf]),(by first | omega | (simp only[bp,b1];omega) | exact cn _ Cell.flat _ | grind[bf]),(by first | omega | (simp only[bp,b1];omega) | exact cn _ Cell.flat _ | grind[bf]),h1,ba,ln,ob,tE,lo,aj⟩
   skip
   
   have Wn:=x6 (xs.filter fun a=>!fT x a) x (by omega);rw[show cR kind xs x=((kk (xs.filter fun a=>!fT x a) x),true) from by grind[cR,k8]];exact aoS ⟨(by first | omega | (simp only[bp,b1];omega) | exact cn _ Cell.flat _ | grind[bf]),(by first | omega | (simp only[bp,b1];omega) | exact cn _ Cell.flat _ | grind[bf]),(by first | omega | (simp only[bp,b1];omega) | exact cn _ Cell.flat _ | grind[bf]),h1,ba,ln,ob,tE,lo,(Ex xs x af),Wn,aj⟩
  skip
  
  have Cz:=x6 (xs.filter fun a=>!fT x a) x (by omega);rw[show cR kind xs x=((kk (xs.filter fun a=>!fT x a) x),true) from by grind[cR,k8]];exact aoT ⟨(by first | omega | (simp only[bp,b1];omega) | exact cn _ Cell.flat _ | grind[bf]),(by first | omega | (simp only[bp,b1];omega) | exact cn _ Cell.flat _ | grind[bf]),(by first | omega | (simp only[bp,b1];omega) | exact cn _ Cell.flat _ | grind[bf]),h1,ba,ln,ob,tE,(Ex xs x af),Cz,aj⟩
 skip
 rw[show cR kind xs x=(xs,true) from by grind[cR,k8]];exact aoU ⟨(by first | omega | (simp only[bp,b1];omega) | exact cn _ Cell.flat _ | grind[bf]),(by first | omega | (simp only[bp,b1];omega) | exact cn _ Cell.flat _ | grind[bf]),(by first | omega | (simp only[bp,b1];omega) | exact cn _ Cell.flat _ | grind[bf]),h1,ba,ln,aj⟩
def fo(x:Node)(s:bD)(key val:Int):List aA:=x.outs.map fun k=>⟨k,s,key,val⟩
def cellOf(r:aA):Cell:=⟨r.op,r.bc.a8,r.key,r.val⟩
def e8(g:bW)(cs:List Cell)(r:aA)(x:Node):List Cell×List aA×Bool:=
 if fa g&&fZ r then
  if !(dc x r.key r.val).2.2&&x.kind != 8 then (cs,[],true)
  else if !(cR x.kind cs ⟨r.op,r.bc.a8,r.key,r.val⟩).2 then ((cR x.kind cs ⟨r.op,r.bc.a8,r.key,r.val⟩).1,[],true)
  else if x.kind=7 then
   ((cR x.kind cs ⟨r.op,r.bc.a8,r.key,r.val⟩).1,(bif (gI r.bc).2 then fo x (gI r.bc).1 (dc x r.key r.val).1 (dc x r.key r.val).2.1 else []),true)
  else ((cR x.kind cs ⟨r.op,r.bc.a8,r.key,r.val⟩).1,fo x r.bc (dc x r.key r.val).1 (dc x r.key r.val).2.1,true)
 else (cs,[],false)
theorem Ey(x:Node)(s:bD)(key val:Int){i:Nat}{k:Int}(h:x.outs[i]?=some k):(((x.outs.take (i+1)).map fun k=>(⟨k,s,key,val⟩:aA)).map aA.e)=(((x.outs.take i).map fun k=>(⟨k,s,key,val⟩:aA)).map aA.e)++[(⟨k,s,key,val⟩:aA).e]:=by
 simp[lK,h]
theorem R1(x:Node)(aa:x.outs.length<=8388608)(s:bD)(key val:Int)(mQ:List (List D)):dd prog (az f176 0) (v' x.kind x.a x.b (x.outs.map cv) key val mQ s.a8 s.cD 0 []) (.exit 0) (uD mQ ((fo x s key val).map aA.e)):=by
 have l:=ef (P:=prog) (c:=(az f176 0)) (cL 0) x.outs.length (fun i:Nat=>v' x.kind x.a x.b (x.outs.map cv) key val mQ s.a8 s.cD i (((x.outs.take i).map fun k=>(⟨k,s,key,val⟩:aA)).map aA.e)) (fun i hi=>by
  obtain⟨k,hk⟩:=dv hi;rw[Ey x s key val hk];exact adv ⟨cg hi,bG,bJ hi,bF cv hk,by simp;omega,by simp;omega,dk (aA.flat ⟨k,s,key,val⟩),cY hi aa,aj⟩) (adw ⟨dH,aj⟩)
 rw[hP]at l;exact l
theorem R2(x:Node)(aa:x.outs.length<=8388608)(s:bD)(key val:Int)(mQ:List (List D)):dd prog (az f176 0) (wa s.a8 s.cD x.kind x.a x.b (x.outs.map cv) key val mQ 0 []) (.exit 0) (uD mQ ((fo x s key val).map aA.e)):=by
 have l:=ef (P:=prog) (c:=(az f176 0)) (cL 0) x.outs.length (fun i:Nat=>wa s.a8 s.cD x.kind x.a x.b (x.outs.map cv) key val mQ i (((x.outs.take i).map fun k=>(⟨k,s,key,val⟩:aA)).map aA.e)) (fun i hi=>by
  obtain⟨k,hk⟩:=dv hi;rw[Ey x s key val hk];exact ady ⟨cg hi,bG,bJ hi,bF cv hk,by simp;omega,by simp;omega,dk (aA.flat ⟨k,s,key,val⟩),cY hi aa,aj⟩) (adz ⟨dH,aj⟩)
 rw[hP]at l;exact l
theorem R3(x:Node)(aa:x.outs.length<=8388608)(s:bD)(key val:Int)(mQ:List (List D)):dd prog (az f176 0) (wb mQ x.kind x.a x.b (x.outs.map cv) key val s.a8 s.cD 0 []) (.exit 0) (uE mQ ((fo x s key val).map aA.e)):=by
 have l:=ef (P:=prog) (c:=(az f176 0)) (cL 0) x.outs.length (fun i:Nat=>wb mQ x.kind x.a x.b (x.outs.map cv) key val s.a8 s.cD i (((x.outs.take i).map fun k=>(⟨k,s,key,val⟩:aA)).map aA.e)) (fun i hi=>by
  obtain⟨k,hk⟩:=dv hi;rw[Ey x s key val hk];exact acK ⟨cg hi,bG,bJ hi,bF cv hk,by simp;omega,by simp;omega,dk (aA.flat ⟨k,s,key,val⟩),cY hi aa,aj⟩) (acL ⟨dH,aj⟩)
 rw[hP]at l;exact l
theorem R4(x:Node)(aa:x.outs.length<=8388608)(s:bD)(key val:Int)(mQ:List (List D)):dd prog (az f176 0) (wP mQ s.a8 s.cD x.kind x.a x.b (x.outs.map cv) key val 0 []) (.exit 0) (uE mQ ((fo x s key val).map aA.e)):=by
 have l:=ef (P:=prog) (c:=(az f176 0)) (cL 0) x.outs.length (fun i:Nat=>wP mQ s.a8 s.cD x.kind x.a x.b (x.outs.map cv) key val i (((x.outs.take i).map fun k=>(⟨k,s,key,val⟩:aA)).map aA.e)) (fun i hi=>by
  obtain⟨k,hk⟩:=dv hi;rw[Ey x s key val hk];exact acN ⟨cg hi,bG,bJ hi,bF cv hk,by simp;omega,by simp;omega,dk (aA.flat ⟨k,s,key,val⟩),cY hi aa,aj⟩) (acO ⟨dH,aj⟩)
 rw[hP]at l;exact l
theorem acZ(g:bW)(cs:List Cell)(r:aA)(x:Node)(ao:g.sz<=8388608)(af:cs.length<=8388608)(aL:fY g r.op=some x):aK 176 [.agg g.e,.one (.J 4 (cs.map Cell.e)),.agg r.e] [.one (.J 4 ((e8 g cs r x).1.map Cell.e)),.one (.J 5 ((e8 g cs r x).2.1.map aA.e)),.one (B (e8 g cs r x).2.2)]:=by
 have aa:=bW.H2 ao (Sr aL);obtain⟨oj,q7,_,_⟩:=Eh aL;have fx:g.nodes[r.op.toNat]?=some x:=by have:=aL;unfold fY at this;rwa[a6 oj]at this
 have c1:=x9 g r.op (x,true) (by unfold rB;rw[aL]) ao;have c2:=yc g ao;rcases dN (fa g) with au | au
 ·skip
  have fR:=s0 r;rcases dN (fZ r) with ba | ba
  ·skip
   have kA:=aaU x r.key r.val aa;rcases dN ((dc x r.key r.val).2.2) with b7 | b7
   ·skip
    have sb:=RZ x.kind;rcases dN (io x.kind) with e5 | e5
    ·skip
     have xt:=R0 x.kind cs (⟨r.op,r.bc.a8,r.key,r.val⟩:Cell) (by omega);rcases dN ((cR x.kind cs (⟨r.op,r.bc.a8,r.key,r.val⟩:Cell)).2) with ln | ln
     ·skip
      rcases dN (x.kind==7) with sk | sk
      ·skip
       have o2:=yb r.bc;rcases dN ((gI r.bc).2) with lo | lo
       ·skip
        
        rw[show e8 g cs r x=(((cR x.kind cs (⟨r.op,r.bc.a8,r.key,r.val⟩:Cell)).1),(fo x ((gI r.bc).1) ((dc x r.key r.val).1) ((dc x r.key r.val).2.1)),true) from by grind[e8,io,cR]];exact acS ⟨(by first | omega | (simp only[bp,b1];omega) | exact cn _ Cell.flat _ | grind[bf]),(by first | omega | (simp only[bp,b1];omega) | exact cn _ Cell.flat _ | grind[bf]),(by first | omega | (simp only[bp,b1];omega) | exact cn _ Cell.flat _ | grind[bf]),c1,rfl,c2,(by rw[au];rfl),fR,(by rw[ba];rfl),kA,(by rw[b7];rfl),sb,e5,xt,(by rw[ln];rfl),sk,o2,(by rw[lo];rfl),(R1 x aa ((gI r.bc).1) ((dc x r.key r.val).1) ((dc x r.key r.val).2.1) _),aj⟩
       skip
       rw[show e8 g cs r x=(((cR x.kind cs (⟨r.op,r.bc.a8,r.key,r.val⟩:Cell)).1),([]:List aA),true) from by grind[e8,io,cR]];exact acR ⟨(by first | omega | (simp only[bp,b1];omega) | exact cn _ Cell.flat _ | grind[bf]),(by first | omega | (simp only[bp,b1];omega) | exact cn _ Cell.flat _ | grind[bf]),(by first | omega | (simp only[bp,b1];omega) | exact cn _ Cell.flat _ | grind[bf]),c1,rfl,c2,(by rw[au];rfl),fR,(by rw[ba];rfl),kA,(by rw[b7];rfl),sb,e5,xt,(by rw[ln];rfl),sk,o2,(by rw[lo];rfl),aj⟩
      skip
      
      rw[show e8 g cs r x=(((cR x.kind cs (⟨r.op,r.bc.a8,r.key,r.val⟩:Cell)).1),(fo x r.bc ((dc x r.key r.val).1) ((dc x r.key r.val).2.1)),true) from by grind[e8,io,cR]];exact acT ⟨(by first | omega | (simp only[bp,b1];omega) | exact cn _ Cell.flat _ | grind[bf]),(by first | omega | (simp only[bp,b1];omega) | exact cn _ Cell.flat _ | grind[bf]),(by first | omega | (simp only[bp,b1];omega) | exact cn _ Cell.flat _ | grind[bf]),c1,rfl,c2,(by rw[au];rfl),fR,(by rw[ba];rfl),kA,(by rw[b7];rfl),sb,e5,xt,(by rw[ln];rfl),sk,(R2 x aa r.bc ((dc x r.key r.val).1) ((dc x r.key r.val).2.1) _),aj⟩
     skip
     rw[show e8 g cs r x=(((cR x.kind cs (⟨r.op,r.bc.a8,r.key,r.val⟩:Cell)).1),([]:List aA),true) from by grind[e8,io,cR]];exact acQ ⟨(by first | omega | (simp only[bp,b1];omega) | exact cn _ Cell.flat _ | grind[bf]),(by first | omega | (simp only[bp,b1];omega) | exact cn _ Cell.flat _ | grind[bf]),(by first | omega | (simp only[bp,b1];omega) | exact cn _ Cell.flat _ | grind[bf]),c1,rfl,c2,(by rw[au];rfl),fR,(by rw[ba];rfl),kA,(by rw[b7];rfl),sb,e5,xt,(by rw[ln];rfl),aj⟩
    skip
    rcases dN (x.kind==7) with oc | oc
    ·skip
     have Cz:=yb r.bc;rcases dN ((gI r.bc).2) with qZ | qZ
     ·skip
      
      rw[show e8 g cs r x=(cs,(fo x ((gI r.bc).1) ((dc x r.key r.val).1) ((dc x r.key r.val).2.1)),true) from by grind[e8,io,cR]];exact acV ⟨(by first | omega | (simp only[bp,b1];omega) | exact cn _ Cell.flat _ | grind[bf]),(by first | omega | (simp only[bp,b1];omega) | exact cn _ Cell.flat _ | grind[bf]),(by first | omega | (simp only[bp,b1];omega) | exact cn _ Cell.flat _ | grind[bf]),c1,rfl,c2,(by rw[au];rfl),fR,(by rw[ba];rfl),kA,(by rw[b7];rfl),sb,e5,oc,Cz,(by rw[qZ];rfl),(R3 x aa ((gI r.bc).1) ((dc x r.key r.val).1) ((dc x r.key r.val).2.1) _),aj⟩
     skip
     rw[show e8 g cs r x=(cs,([]:List aA),true) from by grind[e8,io,cR]];exact acU ⟨(by first | omega | (simp only[bp,b1];omega) | exact cn _ Cell.flat _ | grind[bf]),(by first | omega | (simp only[bp,b1];omega) | exact cn _ Cell.flat _ | grind[bf]),(by first | omega | (simp only[bp,b1];omega) | exact cn _ Cell.flat _ | grind[bf]),c1,rfl,c2,(by rw[au];rfl),fR,(by rw[ba];rfl),kA,(by rw[b7];rfl),sb,e5,oc,Cz,(by rw[qZ];rfl),aj⟩
    skip
    
    rw[show e8 g cs r x=(cs,(fo x r.bc ((dc x r.key r.val).1) ((dc x r.key r.val).2.1)),true) from by grind[e8,io,cR]];exact acW ⟨(by first | omega | (simp only[bp,b1];omega) | exact cn _ Cell.flat _ | grind[bf]),(by first | omega | (simp only[bp,b1];omega) | exact cn _ Cell.flat _ | grind[bf]),(by first | omega | (simp only[bp,b1];omega) | exact cn _ Cell.flat _ | grind[bf]),c1,rfl,c2,(by rw[au];rfl),fR,(by rw[ba];rfl),kA,(by rw[b7];rfl),sb,e5,oc,(R4 x aa r.bc ((dc x r.key r.val).1) ((dc x r.key r.val).2.1) _),aj⟩
   skip
   rcases dN (x.kind != 8) with mz | mz
   ·skip
    rw[show e8 g cs r x=(cs,([]:List aA),true) from by grind[e8,io,cR]];exact ads ⟨(by first | omega | (simp only[bp,b1];omega) | exact cn _ Cell.flat _ | grind[bf]),(by first | omega | (simp only[bp,b1];omega) | exact cn _ Cell.flat _ | grind[bf]),(by first | omega | (simp only[bp,b1];omega) | exact cn _ Cell.flat _ | grind[bf]),c1,rfl,c2,(by rw[au];rfl),fR,(by rw[ba];rfl),kA,(by rw[b7];rfl),mz,aj⟩
   skip
   have ve:=RZ x.kind;rcases dN (io x.kind) with hr | hr
   ·skip
    have nq:=R0 x.kind cs (⟨r.op,r.bc.a8,r.key,r.val⟩:Cell) (by omega);rcases dN ((cR x.kind cs (⟨r.op,r.bc.a8,r.key,r.val⟩:Cell)).2) with zy | zy
    ·skip
     rcases dN (x.kind==7) with nv | nv
     ·skip
      have MO:=yb r.bc;rcases dN ((gI r.bc).2) with pT | pT
      ·skip
       
       rw[show e8 g cs r x=(((cR x.kind cs (⟨r.op,r.bc.a8,r.key,r.val⟩:Cell)).1),(fo x ((gI r.bc).1) ((dc x r.key r.val).1) ((dc x r.key r.val).2.1)),true) from by grind[e8,io,cR]];exact adx ⟨(by first | omega | (simp only[bp,b1];omega) | exact cn _ Cell.flat _ | grind[bf]),(by first | omega | (simp only[bp,b1];omega) | exact cn _ Cell.flat _ | grind[bf]),(by first | omega | (simp only[bp,b1];omega) | exact cn _ Cell.flat _ | grind[bf]),c1,rfl,c2,(by rw[au];rfl),fR,(by rw[ba];rfl),kA,(by rw[b7];rfl),mz,ve,hr,nq,(by rw[zy];rfl),nv,MO,(by rw[pT];rfl),(R1 x aa ((gI r.bc).1) ((dc x r.key r.val).1) ((dc x r.key r.val).2.1) _),aj⟩
      skip
      rw[show e8 g cs r x=(((cR x.kind cs (⟨r.op,r.bc.a8,r.key,r.val⟩:Cell)).1),([]:List aA),true) from by grind[e8,io,cR]];exact adu ⟨(by first | omega | (simp only[bp,b1];omega) | exact cn _ Cell.flat _ | grind[bf]),(by first | omega | (simp only[bp,b1];omega) | exact cn _ Cell.flat _ | grind[bf]),(by first | omega | (simp only[bp,b1];omega) | exact cn _ Cell.flat _ | grind[bf]),c1,rfl,c2,(by rw[au];rfl),fR,(by rw[ba];rfl),kA,(by rw[b7];rfl),mz,ve,hr,nq,(by rw[zy];rfl),nv,MO,(by rw[pT];rfl),aj⟩
     skip
     
     rw[show e8 g cs r x=(((cR x.kind cs (⟨r.op,r.bc.a8,r.key,r.val⟩:Cell)).1),(fo x r.bc ((dc x r.key r.val).1) ((dc x r.key r.val).2.1)),true) from by grind[e8,io,cR]];exact adA ⟨(by first | omega | (simp only[bp,b1];omega) | exact cn _ Cell.flat _ | grind[bf]),(by first | omega | (simp only[bp,b1];omega) | exact cn _ Cell.flat _ | grind[bf]),(by first | omega | (simp only[bp,b1];omega) | exact cn _ Cell.flat _ | grind[bf]),c1,rfl,c2,(by rw[au];rfl),fR,(by rw[ba];rfl),kA,(by rw[b7];rfl),mz,ve,hr,nq,(by rw[zy];rfl),nv,(R2 x aa r.bc ((dc x r.key r.val).1) ((dc x r.key r.val).2.1) _),aj⟩
    skip
    rw[show e8 g cs r x=(((cR x.kind cs (⟨r.op,r.bc.a8,r.key,r.val⟩:Cell)).1),([]:List aA),true) from by grind[e8,io,cR]];exact adt ⟨(by first | omega | (simp only[bp,b1];omega) | exact cn _ Cell.flat _ | grind[bf]),(by first | omega | (simp only[bp,b1];omega) | exact cn _ Cell.flat _ | grind[bf]),(by first | omega | (simp only[bp,b1];omega) | exact cn _ Cell.flat _ | grind[bf]),c1,rfl,c2,(by rw[au];rfl),fR,(by rw[ba];rfl),kA,(by rw[b7];rfl),mz,ve,hr,nq,(by rw[zy];rfl),aj⟩
   skip
   rcases dN (x.kind==7) with pU | pU
   ·skip
    have MP:=yb r.bc;rcases dN ((gI r.bc).2) with vl | vl
    ·skip
     
     rw[show e8 g cs r x=(cs,(fo x ((gI r.bc).1) ((dc x r.key r.val).1) ((dc x r.key r.val).2.1)),true) from by grind[e8,io,cR]];exact acM ⟨(by first | omega | (simp only[bp,b1];omega) | exact cn _ Cell.flat _ | grind[bf]),(by first | omega | (simp only[bp,b1];omega) | exact cn _ Cell.flat _ | grind[bf]),(by first | omega | (simp only[bp,b1];omega) | exact cn _ Cell.flat _ | grind[bf]),c1,rfl,c2,(by rw[au];rfl),fR,(by rw[ba];rfl),kA,(by rw[b7];rfl),mz,ve,hr,pU,MP,(by rw[vl];rfl),(R3 x aa ((gI r.bc).1) ((dc x r.key r.val).1) ((dc x r.key r.val).2.1) _),aj⟩
    skip
    rw[show e8 g cs r x=(cs,([]:List aA),true) from by grind[e8,io,cR]];exact adB ⟨(by first | omega | (simp only[bp,b1];omega) | exact cn _ Cell.flat _ | grind[bf]),(by first | omega | (simp only[bp,b1];omega) | exact cn _ Cell.flat _ | grind[bf]),(by first | omega | (simp only[bp,b1];omega) | exact cn _ Cell.flat _ | grind[bf]),c1,rfl,c2,(by rw[au];rfl),fR,(by rw[ba];rfl),kA,(by rw[b7];rfl),mz,ve,hr,pU,MP,(by rw[vl];rfl),aj⟩
   skip
   
   rw[show e8 g cs r x=(cs,(fo x r.bc ((dc x r.key r.val).1) ((dc x r.key r.val).2.1)),true) from by grind[e8,io,cR]];exact acP ⟨(by first | omega | (simp only[bp,b1];omega) | exact cn _ Cell.flat _ | grind[bf]),(by first | omega | (simp only[bp,b1];omega) | exact cn _ Cell.flat _ | grind[bf]),(by first | omega | (simp only[bp,b1];omega) | exact cn _ Cell.flat _ | grind[bf]),c1,rfl,c2,(by rw[au];rfl),fR,(by rw[ba];rfl),kA,(by rw[b7];rfl),mz,ve,hr,pU,(R4 x aa r.bc ((dc x r.key r.val).1) ((dc x r.key r.val).2.1) _),aj⟩
  skip
  rw[show e8 g cs r x=(cs,([]:List aA),false) from by grind[e8,io,cR]];exact adr ⟨(by first | omega | (simp only[bp,b1];omega) | exact cn _ Cell.flat _ | grind[bf]),(by first | omega | (simp only[bp,b1];omega) | exact cn _ Cell.flat _ | grind[bf]),(by first | omega | (simp only[bp,b1];omega) | exact cn _ Cell.flat _ | grind[bf]),c1,rfl,c2,(by rw[au];rfl),fR,(by rw[ba];rfl),aj⟩
 skip
 rw[show e8 g cs r x=(cs,([]:List aA),false) from by grind[e8,io,cR]];exact adq ⟨(by first | omega | (simp only[bp,b1];omega) | exact cn _ Cell.flat _ | grind[bf]),(by first | omega | (simp only[bp,b1];omega) | exact cn _ Cell.flat _ | grind[bf]),(by first | omega | (simp only[bp,b1];omega) | exact cn _ Cell.flat _ | grind[bf]),c1,rfl,c2,(by rw[au];rfl),aj⟩
end Go.Proofs.YtdchjefneblpgaaGreat
namespace Go.Proofs.YtdchjefneblpgaaGreat
open Go.Sx Go.RowKit Go.Proofs.Tryz
variable{c:aU}
theorem aU.HN(h:c.wf){l:bC}(af:l∈c.bQ):l.wf:=h.Zc.2 l af
structure xm (c:aU):Prop where
 n:bf .i64 c.aF.ap
 l:∀l∈c.bQ,bf .i64 l.cap/\l.dO<=9223372036854775807
theorem xm.of(h:c.wf):xm c:=⟨h.WO.Vi,fun l af=>⟨(aU.HN h af).MS,(aU.HN h af).M3.2⟩⟩
theorem aU.Om(h:c.sz<=8388608){l:bC}(af:l∈c.bQ):l.sz<=8388608:=by
 have:=EO (sz:=bC.sz) (xs:=c.bQ) (m:=8388608) (by simp only[aU.sz]at h;omega) af;exact this
def nS(e:Int)(l:bC):Nat:=(mU e l.queue).length
theorem uW{α:Type}{f:Int->α}{xs:List Int}(h:xs.length<=8388608):IntKind.i64.wrap ((↑(xs.map f).length:Int)-1)=(xs.length:Int)-1:=by
 rw[bp];exact bf.wrap ⟨by omega,by omega⟩
def eE(key ap:Int):Int:=if ap<1 then 0 else if key.tmod ap<0 then key.tmod ap+ap else key.tmod ap
theorem R5(a b:Int)(h:0<b):- b<a.tmod b:=by
 rcases Int.le_total 0 a with ag | ag
 ·have:=Int.tmod_nonneg b ag;omega
 have h1:(-a).tmod b<b:=Int.tmod_lt_of_pos _ h;rw[Int.neg_tmod]at h1;omega
theorem R6(key ap:Int)(hw:ap<=9223372036854775807):aK 245 [.one (I key),.one (I ap)] [.one (I (eE key ap))]:=by
 unfold eE;split
 ·exact aa2 ⟨by simpa using ‹ap<1›,aj⟩
 rename_i h;have h1:=R5 key ap (by omega);have U:key.tmod ap<ap:=Int.tmod_lt_of_pos _ (by omega);split
 ·rename_i au;exact aa3 ⟨by simp only[jO];omega,by omega,by simpa using au,⟨by omega,by omega⟩,aj⟩
 rename_i au;exact aa4 ⟨by simp only[jO];omega,by omega,by simpa using au,aj⟩
def Bt(w n:Int)(r:aA):Bool:=eE r.key n != w
def F7(n:Int)(i:Nat)(w:aP):Bool:=w.queue.any (Bt i n)||w.bT.any (Bt i n)
def F6(n:Int)(i:Nat)(l:bC):Bool:=decide (n<1)||l.queue.any (Bt ((i:Int).tmod n) n)
def R7(c:aU):Bool:=!(anyI (F7 c.aF.ap) 0 c.ap)&&!(anyI (F6 c.aF.ap) 0 c.bQ)
theorem aP.UX{w:aP}(h:w.sz<=8388608):w.queue.length<=8388608:=by simp only[aP.sz]at h;omega
theorem aP.HE{w:aP}(h:w.sz<=8388608):w.bT.length<=8388608:=by simp only[aP.sz]at h;omega
end Go.Proofs.YtdchjefneblpgaaGreat
namespace Go.Proofs.YtdchjefneblpgaaGreat
open Go.Sx Go.RowKit Go.Proofs.Tryz
def dL(g:bW)(cs:List Cell)(r:aA):List Cell×List aA×Bool:=match fY g r.op with | some x=>e8 g cs r x | none=>(cs,[],false)
theorem R8(g:bW)(cs:List Cell)(r:aA)(ao:g.sz<=8388608)(af:cs.length<=8388608):aK 176 [.agg g.e,.one (.J 4 (cs.map Cell.e)),.agg r.e] [.one (.J 4 ((dL g cs r).1.map Cell.e)),.one (.J 5 ((dL g cs r).2.1.map aA.e)),.one (B (dL g cs r).2.2)]:=by
 unfold dL;cases h:fY g r.op with
 | some x=>exact acZ g cs r x ao af h
 | none=>exact adp ⟨by simp<;>omega,by simp<;>omega,cn _ Cell.flat _,x9 g r.op (⟨0,0,0,[]⟩,false) (by unfold rB;rw[h]) ao,rfl,aj⟩
def pw(g:bW)(r:aA)(x:Node):Bool:=fa g&&fZ r&&x.kind==7&&decide (0<x.outs.length)&&!(gI r.bc).2
def ct(g:bW)(r:aA):Bool:=match fY g r.op with | some x=>pw g r x | none=>false
theorem ac0(g:bW)(r:aA)(x:Node)(ao:g.sz<=8388608)(aL:fY g r.op=some x):aK 177 [.agg g.e,.agg r.e] [.one (B (pw g r x))]:=by
 have c1:=x9 g r.op (x,true) (by unfold rB;rw[aL]) ao;have c2:=yb r.bc;have eb:=yc g ao;rcases dN (fa g) with aH | aH
 ·skip
  have ll:=s0 r;rcases dN (fZ r) with br | br
  ·skip
   rcases dN (x.kind==7) with b7 | b7
   ·skip
    rcases dN (decide ((↑(x.outs.map cv).length:Int)>0)) with dV | dV
    ·skip
     rw[show pw g r x=(!((gI r.bc).2)) from by grind[pw]];exact adj ⟨c1,c2,rfl,eb,aH,ll,br,b7,dV,aj⟩
    skip
    rw[show pw g r x=false from by grind[pw]];exact adk ⟨c1,c2,rfl,eb,aH,ll,br,b7,dV,aj⟩
   skip
   rw[show pw g r x=false from by grind[pw]];exact adl ⟨c1,c2,rfl,eb,aH,ll,br,b7,aj⟩
  skip
  rw[show pw g r x=false from by grind[pw]];exact adm ⟨c1,c2,rfl,eb,aH,ll,br,aj⟩
 skip
 rw[show pw g r x=false from by grind[pw]];exact adn ⟨c1,c2,rfl,eb,aH,aj⟩
theorem R9(g:bW)(r:aA)(ao:g.sz<=8388608):aK 177 [.agg g.e,.agg r.e] [.one (B (ct g r))]:=by
 unfold ct;cases h:fY g r.op with
 | some x=>exact ac0 g r x ao h
 | none=>exact ado ⟨x9 g r.op (⟨0,0,0,[]⟩,false) (by unfold rB;rw[h]) ao,yb r.bc,rfl,aj⟩
theorem Kk{g:bW}(h:fa g=true){op:Int}{x:Node}(aL:fY g op=some x):bM x=true:=by
 simp only[fa,ca,fr]at h;unfold fY at aL;split at aL
 ·have:=AT h.2 op.toNat x aL;simp only[l9,gz,lf]at this;exact this.1.1
 cases aL
theorem ac1{x:Node}(h:bM x=true):x.outs.length<=2:=by
 simp only[bM,ca,ci]at h;exact h.1.1.1.2
theorem ac2(kind:Int)(cs:List Cell)(x:Cell):(cR kind cs x).1.length<=cs.length+1:=by
 have h1:=KI cs x;have U:=KI (cs.filter fun a=>!fT x a) x;have au:=qL (fun a=>!fT x a) cs;unfold cR;split
 ·split<;>simp<;>omega
 split
 ·unfold k8;split<;>simp<;>omega
 simp
theorem ac3{g:bW}(ao:fa g=true)(cs:List Cell)(r:aA):(dL g cs r).1.length<=cs.length+1/\(dL g cs r).2.1.length<=2:=by
 unfold dL;cases h:fY g r.op with
 | none=>exact⟨by simp,by simp⟩
 | some x=>
  have aa:=ac1 (Kk ao h);have ar:=ac2 x.kind cs ⟨r.op,r.bc.a8,r.key,r.val⟩;have ae:∀s k v,(fo x s k v).length<=2:=fun s k v=>by simpa[fo]using aa
  simp only[e8];split
  ·split
   ·exact⟨by simp,by simp⟩
   split
   ·exact⟨ar,by simp⟩
   split
   ·refine⟨ar,?_⟩;cases (gI r.bc).2 with
    | true=>exact ae _ _ _
    | false=>simp
   exact⟨ar,ae _ _ _⟩
  exact⟨by simp,by simp⟩
end Go.Proofs.YtdchjefneblpgaaGreat
namespace Go.Proofs.YtdchjefneblpgaaGreat
open Go.Sx Go.RowKit Go.Proofs.Tryz
def Kl(p:Cell×Cell):Bool:=decide (ik p.1 p.2>=0)
def lD(xs:List Cell):Bool:=!((xs.zip (xs.drop 1)).any Kl)
theorem Km{xs:List Cell}{i:Nat}{p:Cell×Cell}(h:(xs.zip (xs.drop 1))[i]?=some p):xs[i]?=some p.1/\xs[i+1]?=some p.2:=by
 rw[List.getElem?_zip_eq_some]at h;obtain⟨h1,U⟩:=h;rw[gV,Nat.add_comm]at U;exact⟨h1,U⟩
theorem ac4(xs:List Cell)(af:xs.length<=8388608):aK 266 [.one (.J 4 (xs.map Cell.e))] [.one (B (lD xs))]:=by
 have bE:∀i:Nat,(((i:Int)+1)-1).toNat=i:=fun i=>by omega
 have e1:∀i:Nat,(((i:Int)+1)).toNat=i+1:=fun i=>by omega
 have aR:(xs.zip (xs.drop 1)).length=xs.length-1:=by simp
 have l:=jb (P:=prog) (c:=(az f266 0)) (xs.zip (xs.drop 1)) Kl (fun i=>uA (xs.map Cell.e) ((i:Int)+1)) (X:=fun _ _=>Kd false) hd (cL 0)
  (fun i a ag h=>by
   obtain⟨h1,U⟩:=Km ag;have hi:=bh U;refine pH (uA (xs.map Cell.e)) (aaw ⟨dU (by simp only[bp];omega),⟨by omega,by omega⟩,by omega,by simp only[bp];omega,by rw[bE,c9,h1];rfl,by omega,by simp only[bp];omega,by rw[e1,c9,U];rfl,EY a.1 a.2,h,⟨by omega,by omega⟩,aj⟩) (by omega))
  (fun i a ag h=>by
   obtain⟨h1,U⟩:=Km ag;have hi:=bh U;exact aav ⟨dU (by simp only[bp];omega),⟨by omega,by omega⟩,by omega,by simp only[bp];omega,by rw[bE,c9,h1];rfl,by omega,by simp only[bp];omega,by rw[e1,c9,U];rfl,EY a.1 a.2,h,aj⟩)
  (aax ⟨eX (by rw[aR];simp only[bp];omega),aj⟩)
 unfold lD;rcases l with⟨_,_,h1,U⟩ | ⟨i,a,_,_,_,_,h1,U⟩
 ·rw[h1];exact aaz ⟨U,aj⟩
 rw[h1];exact aay ⟨U,aj⟩
theorem R'{xs:List Cell}{r:Bool}(h:lD xs=r)(af:xs.length<=8388608):aK 266 [.one (.J 4 (xs.map Cell.e))] [.one (B r)]:=h▸ac4 xs af
def km(g:bW)(r:aA):Bool:=!fZ r||decide (r.op>=(g.nodes.length:Int))
def hU(g:bW)(xs:List aA):Bool:=!(xs.any (km g))
theorem ac5(g:bW)(xs:List aA)(af:xs.length<=8388608):aK 192 [.agg g.e,.one (.J 5 (xs.map aA.e))] [.one (B (hU g xs))]:=by
 have l:=jb (P:=prog) (c:=(az f192 0)) xs (km g) (fun i=>uB (g.nodes.map Node.e) g.ap g.cap (xs.map aA.e) i) (X:=fun _ _=>Es false) hd (cL 0)
  (fun i a ag h=>by
   simp only[km,gz,lf]at h;have c:=s0 a;rw[h.1]at c;exact aaC ⟨cg (bh ag),bG,bJ (bh ag),bF aA.e ag,c,rfl,bG,bJ (bh ag),bF aA.e ag,by rw[bp];exact h.2,cY (bh ag) af,aj⟩)
  (fun i a ag h=>by
   have c:=s0 a;cases ar:fZ a with
   | false=>
    rw[ar]at c;exact aaA ⟨cg (bh ag),bG,bJ (bh ag),bF aA.e ag,c,rfl,aj⟩
   | true=>
    rw[ar]at c;simp only[km,ar,ks,ml]at h;exact aaB ⟨cg (bh ag),bG,bJ (bh ag),bF aA.e ag,c,rfl,bG,bJ (bh ag),bF aA.e ag,by rw[bp];exact h,aj⟩)
  (aaD ⟨dH,aj⟩)
 unfold hU;rcases l with⟨_,_,h1,U⟩ | ⟨i,a,_,_,_,_,h1,U⟩
 ·rw[h1];exact ab7 ⟨U,aj⟩
 rw[h1];exact aaE ⟨U,aj⟩
theorem wQ(g:bW)(xs:List aA)(r:Bool)(h:hU g xs=r)(_:g.sz<=8388608)(af:xs.length<=8388608):aK 192 [.agg g.e,.one (.J 5 (xs.map aA.e))] [.one (B r)]:=h▸ac5 g xs af
def k9(l:bC):Bool:=
 aW l.cap 1 4&&aW l.fh 0 l.cap&&aW l.back 0 l.cap&&(l.fh+l.back+l.queue.length==l.cap)&&aW l.eV 0 1000000000&&decide (0<=l.dO)&&(l.dO==l.eV-l.queue.length)&&!(l.queue.any fun r=>!fZ r)
theorem DZ(l:bC)(af:l.sz<=8388608):aK 191 [.agg l.e] [.one (B (k9 l))]:=by
 have av:l.queue.length<=8388608:=af;have a':=jb (P:=prog) (c:=(az f191 0)) l.queue (fun r=>!fZ r) (fun i=>vT l.cap (l.queue.map aA.e) l.fh l.back l.eV l.dO i) (X:=fun _ _=>Ki false) hd (cL 0)
  (fun i a ag h=>abK ⟨cg (bh ag),bG,bJ (bh ag),bF aA.e ag,s0 a,h,cY (bh ag) av,aj⟩)
  (fun i a ag h=>abJ ⟨cg (bh ag),bG,bJ (bh ag),bF aA.e ag,s0 a,h,aj⟩)
  (abL ⟨dH,aj⟩)
 unfold k9;rcases a' with⟨_,_,bm,a'⟩ | ⟨i,a,_,_,_,_,bm,a'⟩
 case inr=>
  rw[bm,ks,Bool.and_false];exact abM ⟨a',aj⟩
 rw[bm,nZ,tr];have c1:=iN l.cap 1 4;have c2:=iN l.fh 0 l.cap;have eb:=iN l.back 0 l.cap;have fR:=iN l.eV 0 1000000000;cases h1:aW l.cap 1 4 with
 | false=>rw[h1]at c1;exact abT ⟨a',c1,rfl,aj⟩
 | true=>
 cases U:aW l.fh 0 l.cap with
 | false=>rw[h1]at c1;rw[U]at c2;exact abS ⟨a',c1,rfl,c2,rfl,aj⟩
 | true=>
 cases au:aW l.back 0 l.cap with
 | false=>rw[h1]at c1;rw[U]at c2;rw[au]at eb;exact abR ⟨a',c1,rfl,c2,rfl,eb,rfl,aj⟩
 | true=>
 have cC:=h1;have b6:=U;have eH:=au;simp only[aW,ci]at cC b6 eH;rw[h1]at c1;rw[U]at c2;rw[au]at eb;have qI:bf .i64 (l.fh+l.back):=⟨by omega,by omega⟩
 have tm:bf .i64 (l.fh+l.back+(↑(l.queue.map aA.e).length:Int)):=⟨by simp only[bp];omega,by simp only[bp];omega⟩
 cases aH:(l.fh+l.back+(l.queue.length:Int)==l.cap) with
 | false=>exact abQ ⟨a',c1,rfl,c2,rfl,eb,rfl,qI,tm,by rw[bp];exact aH,aj⟩
 | true=>
 have v4:(l.fh+l.back+(↑(l.queue.map aA.e).length:Int)==l.cap)=true:=by rw[bp];exact aH
 cases ba:aW l.eV 0 1000000000 with
 | false=>rw[ba]at fR;exact abP ⟨a',c1,rfl,c2,rfl,eb,rfl,qI,tm,v4,fR,rfl,aj⟩
 | true=>
 have kG:=ba;simp only[aW,ci]at kG;rw[ba]at fR;have xd:bf .i64 (l.eV-(↑(l.queue.map aA.e).length:Int)):=⟨by simp only[bp];omega,by simp only[bp];omega⟩
 cases b7:(l.dO==l.eV-(l.queue.length:Int)) with
 | false=>
  rw[Bool.and_false];exact abO ⟨a',c1,rfl,c2,rfl,eb,rfl,qI,tm,v4,fR,rfl,xd,by rw[bp];exact b7,aj⟩
 | true=>
  rw[tr];exact abN ⟨a',c1,rfl,c2,rfl,eb,rfl,qI,tm,v4,fR,rfl,xd,by rw[bp];exact b7,aj⟩
end Go.Proofs.YtdchjefneblpgaaGreat
namespace Go.Proofs.YtdchjefneblpgaaGreat
open Go.Sx Go.RowKit Go.Proofs.Tryz
def nF(xs:List aA)(i:Nat)(r:aA):Bool:=
 r.op != 0||r.bc.cD != 0||(match i with | 0=>false | j+1=>match xs[j]? with | some q=>decide (q.bc.a8>r.bc.a8) | none=>false)
theorem ac6{xs:List aA}{i:Nat}{a:aA}(ag:xs[i]?=some a)(h:nF xs i a=true):
  (a.op != 0)=true\/((a.op != 0)=false/\(a.bc.cD != 0)=true)\/((a.op != 0)=false/\(a.bc.cD != 0)=false/\∃j b,i=j+1/\xs[j]?=some b/\decide (b.bc.a8>a.bc.a8)=true):=by
 unfold nF at h;cases h1:(a.op != 0) with
 | true=>exact .inl rfl
 | false=>
 cases U:(a.bc.cD != 0) with
 | true=>exact .inr (.inl ⟨rfl,rfl⟩)
 | false=>
 rw[h1,U,ml,ml]at h;cases i with
 | zero=>cases h
 | succ j=>
  have aM:j<xs.length:=by have:=bh ag;omega
  obtain⟨b,ah⟩:=dv aM;simp only[ah]at h;exact .inr (.inr ⟨rfl,rfl,j,b,rfl,ah,h⟩)
theorem ac7{xs:List aA}{i:Nat}{a:aA}(ag:xs[i]?=some a)(h:nF xs i a=false):
  (a.op != 0)=false/\(a.bc.cD != 0)=false/\(i=0\/∃j b,i=j+1/\xs[j]?=some b/\decide (b.bc.a8>a.bc.a8)=false):=by
 unfold nF at h;rw[gz,gz]at h;obtain⟨⟨h1,U⟩,h⟩:=h;refine⟨h1,U,?_⟩;cases i with
 | zero=>exact .inl rfl
 | succ j=>
  have aM:j<xs.length:=by have:=bh ag;omega
  obtain⟨b,ah⟩:=dv aM;simp only[ah]at h;exact .inr ⟨j,b,rfl,ah,h⟩
theorem Sa{α:Type}(f:α->List D){xs:List α}{j:Nat}{b:α}(h:xs[j]?=some b):(xs.map f)[(((j+1:Nat):Int)-1).toNat]?=some (f b):=by
 rw[show (((j+1:Nat):Int)-1)=(j:Int) by omega];exact bF f h
theorem Sb{α β:Type}{f:α->β}{xs:List α}{j:Nat}{b:α}(h:xs[j]?=some b):(((j+1:Nat):Int)-1)<(↑(xs.map f).length:Int):=by
 have:=bh h;rw[bp];omega
def qA(n:Int):Bool:=!aW n (-1000000) 1000000
def qB(xs:List dA)(i:Nat)(d:dA):Bool:=!aW d.a8 0 3||(xs.take i).any (fun q=>q.a8==d.a8)
theorem kh{α β:Type}{f:α->β}{xs:List α}(h:(xs.length==4)=true):((↑(xs.map f).length:Int) != 4)=false:=by
 rw[bp,eq_of_beq h];rfl
theorem Dl{α β:Type}{f:α->β}{xs:List α}(h:(xs.length==4)=false):((↑(xs.map f).length:Int) != 4)=true:=by
 rw[bp];have:=ne_of_beq_false h;simp only[bne_iff_ne,ho];omega
def fz(g:bW)(w:aP):Bool:=
 hU g w.queue&&(hU g w.ck&&(hU g w.bT&&(lD w.cells&&((w.bK.length==4)&&((w.bL.length==4)&&((w.bA.length==4)&&(!anyI (nF w.bT) 0 w.bT&&(!(w.bK.any qA)&&!anyI (qB w.cu) 0 w.cu))))))))
variable{w:aP}
theorem aP.Va(h:w.sz<=8388608):w.ck.length<=8388608:=by simp only[aP.sz]at h;omega
theorem aP.MU(h:w.sz<=8388608):w.cells.length<=8388608:=by simp only[aP.sz]at h;omega
theorem aP.aqy(h:w.sz<=8388608):w.bK.length<=8388608:=by simp only[aP.sz]at h;omega
theorem aP.Wv(h:w.sz<=8388608):w.cu.length<=8388608:=by simp only[aP.sz]at h;omega
theorem ac8(w:aP)(af:w.bT.length<=8388608):
  (anyI (nF w.bT) 0 w.bT=false/\dd prog (az f175 0) (oF (w.queue.map aA.e) (w.ck.map aA.e) (w.bT.map aA.e) (w.cells.map Cell.e) (w.bK.map cv) (w.bL.map c6) (w.bA.map c6) (w.cu.map dA.e) 0) (.exit 0) (H6 (w.queue.map aA.e) (w.ck.map aA.e) (w.bT.map aA.e) (w.cells.map Cell.e) (w.bK.map cv) (w.bL.map c6) (w.bA.map c6) (w.cu.map dA.e)))\/
  (anyI (nF w.bT) 0 w.bT=true/\dd prog (az f175 0) (oF (w.queue.map aA.e) (w.ck.map aA.e) (w.bT.map aA.e) (w.cells.map Cell.e) (w.bK.map cv) (w.bL.map c6) (w.bA.map c6) (w.cu.map dA.e) 0) .ret (Bq false)):=
 EN (P:=prog) (c:=(az f175 0)) w.bT (nF w.bT) (fun i=>oF (w.queue.map aA.e) (w.ck.map aA.e) (w.bT.map aA.e) (w.cells.map Cell.e) (w.bK.map cv) (w.bL.map c6) (w.bA.map c6) (w.cu.map dA.e) i) hd (cL 0)
  (fun i a ag h=>by
   have hi:=bh ag;obtain⟨h1,U,rfl | ⟨j,b,rfl,ah,au⟩⟩:=ac7 ag h
   ·exact ack ⟨cg (bh ag),bG,bJ (bh ag),bF aA.e ag,h1,bG,bJ (bh ag),bF aA.e ag,U,eX (by omega),cY (bh ag) af,aj⟩
   exact acj ⟨cg (bh ag),bG,bJ (bh ag),bF aA.e ag,h1,bG,bJ (bh ag),bF aA.e ag,U,dU (by omega),⟨by omega,by omega⟩,by omega,Sb ah,Sa aA.e ah,bG,bJ (bh ag),bF aA.e ag,au,cY (bh ag) af,aj⟩)
  (fun i a ag h=>by
   have hi:=bh ag;rcases ac6 ag h with h1 | ⟨h1,U⟩ | ⟨h1,U,j,b,rfl,ah,au⟩
   ·exact acg ⟨cg (bh ag),bG,bJ (bh ag),bF aA.e ag,h1,aj⟩
   ·exact ach ⟨cg (bh ag),bG,bJ (bh ag),bF aA.e ag,h1,bG,bJ (bh ag),bF aA.e ag,U,aj⟩
   exact aci ⟨cg (bh ag),bG,bJ (bh ag),bF aA.e ag,h1,bG,bJ (bh ag),bF aA.e ag,U,dU (by omega),⟨by omega,by omega⟩,by omega,Sb ah,Sa aA.e ah,bG,bJ (bh ag),bF aA.e ag,au,aj⟩)
  (acm ⟨dH,aj⟩)
theorem ac9(w:aP)(af:w.cu.length<=8388608):
  (anyI (qB w.cu) 0 w.cu=false/\dd prog (az f175 2) (rG (w.queue.map aA.e) (w.ck.map aA.e) (w.bT.map aA.e) (w.cells.map Cell.e) (w.bK.map cv) (w.bL.map c6) (w.bA.map c6) (w.cu.map dA.e) 0) (.exit 4) Kh)\/
  (anyI (qB w.cu) 0 w.cu=true/\dd prog (az f175 2) (rG (w.queue.map aA.e) (w.ck.map aA.e) (w.bT.map aA.e) (w.cells.map Cell.e) (w.bK.map cv) (w.bL.map c6) (w.bA.map c6) (w.cu.map dA.e) 0) .ret (Et false)):=by
 have inner:∀(i:Nat) (a:dA),w.cu[i]?=some a->
   (((w.cu.take i).any (fun q=>q.a8==a.a8))=false/\dd prog (az f175 3) (s3 (w.queue.map aA.e) (w.ck.map aA.e) (w.bT.map aA.e) (w.cells.map Cell.e) (w.bK.map cv) (w.bL.map c6) (w.bA.map c6) (w.cu.map dA.e) i 0) (.exit 6) (Kg (w.queue.map aA.e) (w.ck.map aA.e) (w.bT.map aA.e) (w.cells.map Cell.e) (w.bK.map cv) (w.bL.map c6) (w.bA.map c6) (w.cu.map dA.e) i))\/
   (((w.cu.take i).any (fun q=>q.a8==a.a8))=true/\dd prog (az f175 3) (s3 (w.queue.map aA.e) (w.ck.map aA.e) (w.bT.map aA.e) (w.cells.map Cell.e) (w.bK.map cv) (w.bL.map c6) (w.bA.map c6) (w.cu.map dA.e) i 0) .ret (Eu false)):=by
  intro i a ag;have hi:=bh ag;have hlen:(w.cu.take i).length=i:=by rw[lJ];omega
  have hh:∀{k:Nat} {b:dA},(w.cu.take i)[k]?=some b->k<i/\w.cu[k]?=some b:=fun {k b} h=>by
   have hk:=bh h;rw[hlen]at hk;rw[gX,a6 hk]at h;exact⟨hk,h⟩
  have l:=jb (P:=prog) (c:=(az f175 3)) (w.cu.take i) (fun q=>q.a8==a.a8) (fun k=>s3 (w.queue.map aA.e) (w.ck.map aA.e) (w.bT.map aA.e) (w.cells.map Cell.e) (w.bK.map cv) (w.bL.map c6) (w.bA.map c6) (w.cu.map dA.e) i k) (X:=fun _ _=>Eu false) hd (cL 6)
   (fun k b ah h=>by
    obtain⟨hk,ah⟩:=hh ah;exact acv ⟨dU (by omega),bG,bJ (bh ah),bF dA.e ah,bG,bJ (bh ag),bF dA.e ag,h,cY (bh ah) af,aj⟩)
   (fun k b ah h=>by
    obtain⟨hk,ah⟩:=hh ah;exact acu ⟨dU (by omega),bG,bJ (bh ah),bF dA.e ah,bG,bJ (bh ag),bF dA.e ag,h,aj⟩)
   (acw ⟨eX (by rw[hlen];omega),aj⟩)
  rcases l with⟨_,_,h1,U⟩ | ⟨_,_,_,_,_,_,h1,U⟩
  ·exact .inl ⟨h1,U⟩
  exact .inr ⟨h1,U⟩
 exact EN (P:=prog) (c:=(az f175 2)) w.cu (qB w.cu) (fun i=>rG (w.queue.map aA.e) (w.ck.map aA.e) (w.bT.map aA.e) (w.cells.map Cell.e) (w.bK.map cv) (w.bL.map c6) (w.bA.map c6) (w.cu.map dA.e) i) hd (cL 4)
  (fun i a ag h=>by
   simp only[qB,gz,lf]at h;rcases inner i a ag with⟨e,l⟩ | ⟨e,l⟩
   ·exact acy ⟨cg (bh ag),bG,bJ (bh ag),bF dA.e ag,fL true h.1,rfl,l,cY (bh ag) af,aj⟩
   rw[h.2]at e;cases e)
  (fun i a ag h=>by
   cases h1:aW a.a8 0 3 with
   | false=>exact acs ⟨cg (bh ag),bG,bJ (bh ag),bF dA.e ag,fL false h1,rfl,aj⟩
   | true=>
    simp only[qB,h1,ks,ml]at h;rcases inner i a ag with⟨e,l⟩ | ⟨e,l⟩
    ·rw[h]at e;cases e
    exact acx ⟨cg (bh ag),bG,bJ (bh ag),bF dA.e ag,fL true h1,rfl,l,aj⟩)
  (acz ⟨dH,aj⟩)
theorem D0(g:bW)(w:aP)(ao:g.sz<=8388608)(hw:w.sz<=8388608):aK 175 [.agg g.e,.agg w.e] [.one (B (fz g w))]:=by
 unfold fz;cases h1:hU g w.queue with
 | false=>exact ab8 ⟨wQ g _ _ h1 ao (aP.UX hw),rfl,aj⟩
 | true=>
 have c1:=wQ g _ _ h1 ao (aP.UX hw);cases U:hU g w.ck with
 | false=>exact ab9 ⟨c1,rfl,wQ g _ _ U ao (aP.Va hw),rfl,aj⟩
 | true=>
 have c2:=wQ g _ _ U ao (aP.Va hw);cases au:hU g w.bT with
 | false=>exact aca ⟨c1,rfl,c2,rfl,wQ g _ _ au ao (aP.HE hw),rfl,aj⟩
 | true=>
 have eb:=wQ g _ _ au ao (aP.HE hw);cases aH:lD w.cells with
 | false=>exact acb ⟨c1,rfl,c2,rfl,eb,rfl,R' aH (aP.MU hw),rfl,aj⟩
 | true=>
 have fR:=R' aH (aP.MU hw);cases ba:(w.bK.length==4) with
 | false=>exact acd ⟨c1,rfl,c2,rfl,eb,rfl,fR,rfl,Dl ba,aj⟩
 | true=>
 cases br:(w.bL.length==4) with
 | false=>exact ace ⟨c1,rfl,c2,rfl,eb,rfl,fR,rfl,kh ba,Dl br,aj⟩
 | true=>
 cases b7:(w.bA.length==4) with
 | false=>exact acf ⟨c1,rfl,c2,rfl,eb,rfl,fR,rfl,kh ba,kh br,Dl b7,aj⟩
 | true=>
 have sD:w.bK.length=4:=eq_of_beq ba;rcases ac8 w (aP.HE hw) with⟨dV,sM⟩ | ⟨dV,sM⟩
 case inr=>rw[dV];exact acn ⟨c1,rfl,c2,rfl,eb,rfl,fR,rfl,kh ba,kh br,kh b7,sM,aj⟩
 have xV:=jb (P:=prog) (c:=(az f175 1)) w.bK qA (fun i=>uC (w.queue.map aA.e) (w.ck.map aA.e) (w.bT.map aA.e) (w.cells.map Cell.e) (w.bK.map cv) (w.bL.map c6) (w.bA.map c6) (w.cu.map dA.e) i) (X:=fun _ _=>Ke false) hd (cL 2)
  (fun i a ag h=>acp ⟨dU (by have:=bh ag;omega),bG,bJ (bh ag),bF cv ag,fL true (by simpa[qA]using h),rfl,cY (bh ag) (aP.aqy hw),aj⟩)
  (fun i a ag h=>aco ⟨dU (by have:=bh ag;omega),bG,bJ (bh ag),bF cv ag,fL false (by simpa[qA]using h),rfl,aj⟩)
  (acq ⟨eX (by omega),aj⟩)
 rw[dV];rcases xV with⟨_,_,e5,xV⟩ | ⟨_,_,_,_,_,_,e5,xV⟩
 case inr=>rw[e5];exact acr ⟨c1,rfl,c2,rfl,eb,rfl,fR,rfl,kh ba,kh br,kh b7,sM,xV,aj⟩
 rw[e5];rcases ac9 w (aP.Wv hw) with⟨ek,HL⟩ | ⟨ek,HL⟩
 ·rw[ek];exact abI ⟨c1,rfl,c2,rfl,eb,rfl,fR,rfl,kh ba,kh br,kh b7,sM,xV,HL,aj⟩
 rw[ek];exact abH ⟨c1,rfl,c2,rfl,eb,rfl,fR,rfl,kh ba,kh br,kh b7,sM,xV,HL,aj⟩
end Go.Proofs.YtdchjefneblpgaaGreat
namespace Go.Proofs.YtdchjefneblpgaaGreat
open Go.Sx Go.RowKit Go.Proofs.Tryz
