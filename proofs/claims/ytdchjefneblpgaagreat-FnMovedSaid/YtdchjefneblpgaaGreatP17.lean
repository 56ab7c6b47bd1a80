import Derived.Test.YtdchjefneblpgaaGreatP16
import Derived.Test.YtdchjefneblpgaaGreatGS
set_option linter.unusedVariables false
set_option linter.unusedSimpArgs false
namespace Go.Proofs.YtdchjefneblpgaaGreat
open Go.Sx Go.RowKit Go.Proofs.Tryz
def hX(k:Int):Bool:=k==5||k==6||k==8
def oO(xs:List Cell)(x:Cell):List Cell×Bool:=
 if (tK xs x.op x.bf x.key).2&&decide ((tK xs x.op x.bf x.key).1<=x.val) then (xs,false) else (nW (xs.filter fun a=>!gx x a) x,true)
def eb(kind:Int)(xs:List Cell)(x:Cell):List Cell×Bool:=
 if kind=6 then (if vm xs x then (xs,false) else (nW xs x,true))
 else if kind=5\/kind=8 then oO xs x
 else (xs,true)
theorem Sa(k:Int):av 268 [.one (I k)] [.one (B (hX k))]:=by
 rcases c7 (k==5) with h1 | h1
 ·skip
  rw[show hX k=true from by grind[hX]];exact anq ⟨h1,aa⟩
 skip
 rcases c7 (k==6) with U | U
 ·skip
  rw[show hX k=true from by grind[hX]];exact anr ⟨h1,U,aa⟩
 skip
 rw[show hX k=(k==8) from by grind[hX]];exact ant ⟨h1,U,aa⟩
theorem acD(xs acc:List Cell)(x:Cell)(ak:xs.length<=8388608)(i:Nat)(ah:acc.length<=i)(a:Cell)(aj:xs[i]?=some a):fz prog (ar f269 0) (kU (xs.map Cell.e) x.op x.bf x.key x.val i (acc.map Cell.e)) .normal (kU (xs.map Cell.e) x.op x.bf x.key x.val ((i+1:Nat):Int) ((acc++(bif gx x a then [] else [a])).map Cell.e)):=by
 have a':=a6 aj;have dO:xs[(i:Int).toNat]?=some a:=by simpa using aj
 have ew:decide ((i:Int)<(↑(xs.map Cell.e).length:Int))=true:=cf a';rcases c7 (a.op != x.op) with h1 | h1
 ·skip
  have ai:gx x a=false:=by grind[gx]
  rw[ai];rw[show (acc++(bif false then [] else [a])).map Cell.e=acc.map Cell.e++[a.e] from by simp];exact anx ⟨ew,(by first | omega | (simp only[bm,dH,b9];omega) | exact dG a.flat | (exact⟨by omega,by omega⟩)),(by first | omega | (simp only[bm,dH,b9];omega) | exact dG a.flat | (exact⟨by omega,by omega⟩)),(bM Cell.e dO),h1,(by first | omega | (simp only[bm,dH,b9];omega) | exact dG a.flat | (exact⟨by omega,by omega⟩)),(by first | omega | (simp only[bm,dH,b9];omega) | exact dG a.flat | (exact⟨by omega,by omega⟩)),(bM Cell.e dO),(by first | omega | (simp only[bm,dH,b9];omega) | exact dG a.flat | (exact⟨by omega,by omega⟩)),(by first | omega | (simp only[bm,dH,b9];omega) | exact dG a.flat | (exact⟨by omega,by omega⟩)),(by first | omega | (simp only[bm,dH,b9];omega) | exact dG a.flat | (exact⟨by omega,by omega⟩)),(by first | omega | (simp only[bm,dH,b9];omega) | exact dG a.flat | (exact⟨by omega,by omega⟩)),aa⟩
 skip
 rcases c7 (a.bf != x.bf) with U | U
 ·skip
  have ai:gx x a=false:=by grind[gx]
  rw[ai];rw[show (acc++(bif false then [] else [a])).map Cell.e=acc.map Cell.e++[a.e] from by simp];exact anz ⟨ew,(by first | omega | (simp only[bm,dH,b9];omega) | exact dG a.flat | (exact⟨by omega,by omega⟩)),(by first | omega | (simp only[bm,dH,b9];omega) | exact dG a.flat | (exact⟨by omega,by omega⟩)),(bM Cell.e dO),h1,(by first | omega | (simp only[bm,dH,b9];omega) | exact dG a.flat | (exact⟨by omega,by omega⟩)),(by first | omega | (simp only[bm,dH,b9];omega) | exact dG a.flat | (exact⟨by omega,by omega⟩)),(bM Cell.e dO),U,(by first | omega | (simp only[bm,dH,b9];omega) | exact dG a.flat | (exact⟨by omega,by omega⟩)),(by first | omega | (simp only[bm,dH,b9];omega) | exact dG a.flat | (exact⟨by omega,by omega⟩)),(bM Cell.e dO),(by first | omega | (simp only[bm,dH,b9];omega) | exact dG a.flat | (exact⟨by omega,by omega⟩)),(by first | omega | (simp only[bm,dH,b9];omega) | exact dG a.flat | (exact⟨by omega,by omega⟩)),(by first | omega | (simp only[bm,dH,b9];omega) | exact dG a.flat | (exact⟨by omega,by omega⟩)),(by first | omega | (simp only[bm,dH,b9];omega) | exact dG a.flat | (exact⟨by omega,by omega⟩)),aa⟩
 skip
 rcases c7 (a.key != x.key) with ax | ax
 ·skip
  have ai:gx x a=false:=by grind[gx]
  rw[ai];rw[show (acc++(bif false then [] else [a])).map Cell.e=acc.map Cell.e++[a.e] from by simp];exact amX ⟨ew,(by first | omega | (simp only[bm,dH,b9];omega) | exact dG a.flat | (exact⟨by omega,by omega⟩)),(by first | omega | (simp only[bm,dH,b9];omega) | exact dG a.flat | (exact⟨by omega,by omega⟩)),(bM Cell.e dO),h1,(by first | omega | (simp only[bm,dH,b9];omega) | exact dG a.flat | (exact⟨by omega,by omega⟩)),(by first | omega | (simp only[bm,dH,b9];omega) | exact dG a.flat | (exact⟨by omega,by omega⟩)),(bM Cell.e dO),U,(by first | omega | (simp only[bm,dH,b9];omega) | exact dG a.flat | (exact⟨by omega,by omega⟩)),(by first | omega | (simp only[bm,dH,b9];omega) | exact dG a.flat | (exact⟨by omega,by omega⟩)),(bM Cell.e dO),ax,(by first | omega | (simp only[bm,dH,b9];omega) | exact dG a.flat | (exact⟨by omega,by omega⟩)),(by first | omega | (simp only[bm,dH,b9];omega) | exact dG a.flat | (exact⟨by omega,by omega⟩)),(bM Cell.e dO),(by first | omega | (simp only[bm,dH,b9];omega) | exact dG a.flat | (exact⟨by omega,by omega⟩)),(by first | omega | (simp only[bm,dH,b9];omega) | exact dG a.flat | (exact⟨by omega,by omega⟩)),(by first | omega | (simp only[bm,dH,b9];omega) | exact dG a.flat | (exact⟨by omega,by omega⟩)),(by first | omega | (simp only[bm,dH,b9];omega) | exact dG a.flat | (exact⟨by omega,by omega⟩)),aa⟩
 skip
 have ai:gx x a=true:=by grind[gx]
 rw[ai];rw[show (acc++(bif true then [] else [a])).map Cell.e=acc.map Cell.e from by simp];exact amY ⟨ew,(by first | omega | (simp only[bm,dH,b9];omega) | exact dG a.flat | (exact⟨by omega,by omega⟩)),(by first | omega | (simp only[bm,dH,b9];omega) | exact dG a.flat | (exact⟨by omega,by omega⟩)),(bM Cell.e dO),h1,(by first | omega | (simp only[bm,dH,b9];omega) | exact dG a.flat | (exact⟨by omega,by omega⟩)),(by first | omega | (simp only[bm,dH,b9];omega) | exact dG a.flat | (exact⟨by omega,by omega⟩)),(bM Cell.e dO),U,(by first | omega | (simp only[bm,dH,b9];omega) | exact dG a.flat | (exact⟨by omega,by omega⟩)),(by first | omega | (simp only[bm,dH,b9];omega) | exact dG a.flat | (exact⟨by omega,by omega⟩)),(bM Cell.e dO),ax,(by first | omega | (simp only[bm,dH,b9];omega) | exact dG a.flat | (exact⟨by omega,by omega⟩)),aa⟩
theorem acE(p:Cell->Bool){xs:List Cell}{i:Nat}{a:Cell}(h:xs[i]?=some a):(xs.take (i+1)).filter (fun b=>!p b)=(xs.take i).filter (fun b=>!p b)++(bif p a then [] else [a]):=by
 rw[Is _ h];cases p a<;>rfl
theorem DV(xs:List Cell)(x:Cell)(ak:xs.length<=8388608):c0 prog (ar f269 0) (kU (xs.map Cell.e) x.op x.bf x.key x.val 0 []) (.exit 1) (xH x.op x.bf x.key x.val ((xs.filter fun a=>!gx x a).map Cell.e)):=by
 have l:=e7 (P:=prog) (c:=(ar f269 0)) (cM 1) xs.length (fun i:Nat=>kU (xs.map Cell.e) x.op x.bf x.key x.val i (((xs.take i).filter fun a=>!gx x a).map Cell.e)) (fun i hi=>by
  obtain⟨a,aj⟩:=cY hi;rw[acE (gx x) aj];exact acD xs _ x ak i (Ru _ xs i) a aj) (amZ ⟨dU,aa⟩)
 rw[k1]at l;exact l
theorem Sb(kind:Int)(xs:List Cell)(x:Cell)(ak:xs.length<=8388608):av 269 [.one (I kind),.one (.J 4 (xs.map Cell.e)),.agg x.e] [.one (.J 4 (((eb kind xs x).1).map Cell.e)),.one (B ((eb kind xs x).2))]:=by
 have bY:=ud (fun a=>!gx x a) xs;rcases c7 (kind==6) with h1 | h1
 ·skip
  have c2:=QG xs x (by omega);rcases c7 (vm xs x) with ax | ax
  ·skip
   rw[show eb kind xs x=(xs,false) from by grind[eb,oO]];exact anu ⟨(by first | omega | (simp only[bm,b9];omega) | exact cr _ Cell.flat _ | grind[az]),(by first | omega | (simp only[bm,b9];omega) | exact cr _ Cell.flat _ | grind[az]),(by first | omega | (simp only[bm,b9];omega) | exact cr _ Cell.flat _ | grind[az]),h1,c2,ax,aa⟩
  skip
  have ef:=AF xs x (by omega);rw[show eb kind xs x=((nW xs x),true) from by grind[eb,oO]];exact anv ⟨(by first | omega | (simp only[bm,b9];omega) | exact cr _ Cell.flat _ | grind[az]),(by first | omega | (simp only[bm,b9];omega) | exact cr _ Cell.flat _ | grind[az]),(by first | omega | (simp only[bm,b9];omega) | exact cr _ Cell.flat _ | grind[az]),h1,c2,ax,ef,aa⟩
 skip
 rcases c7 (kind==5) with aV | aV
 ·skip
  have j6:=QY xs x.op x.bf x.key (by omega);rcases c7 ((tK xs x.op x.bf x.key).2) with bX | bX
  ·skip
   rcases c7 (decide (((tK xs x.op x.bf x.key).1)<=x.val)) with c8 | c8
   ·skip
    rw[show eb kind xs x=(xs,false) from by grind[eb,oO]];exact anw ⟨(by first | omega | (simp only[bm,b9];omega) | exact cr _ Cell.flat _ | grind[az]),(by first | omega | (simp only[bm,b9];omega) | exact cr _ Cell.flat _ | grind[az]),(by first | omega | (simp only[bm,b9];omega) | exact cr _ Cell.flat _ | grind[az]),h1,aV,aV,j6,bX,c8,aa⟩
   skip
   
   have Wd:=AF (xs.filter fun a=>!gx x a) x (by omega);rw[show eb kind xs x=((nW (xs.filter fun a=>!gx x a) x),true) from by grind[eb,oO]];exact am0 ⟨(by first | omega | (simp only[bm,b9];omega) | exact cr _ Cell.flat _ | grind[az]),(by first | omega | (simp only[bm,b9];omega) | exact cr _ Cell.flat _ | grind[az]),(by first | omega | (simp only[bm,b9];omega) | exact cr _ Cell.flat _ | grind[az]),h1,aV,aV,j6,bX,c8,(DV xs x ak),Wd,aa⟩
  skip
  
  have wu:=AF (xs.filter fun a=>!gx x a) x (by omega);rw[show eb kind xs x=((nW (xs.filter fun a=>!gx x a) x),true) from by grind[eb,oO]];exact am1 ⟨(by first | omega | (simp only[bm,b9];omega) | exact cr _ Cell.flat _ | grind[az]),(by first | omega | (simp only[bm,b9];omega) | exact cr _ Cell.flat _ | grind[az]),(by first | omega | (simp only[bm,b9];omega) | exact cr _ Cell.flat _ | grind[az]),h1,aV,aV,j6,bX,(DV xs x ak),wu,aa⟩
 skip
 rcases c7 (kind==8) with hM | hM
 ·skip
  have nf:=QY xs x.op x.bf x.key (by omega);rcases c7 ((tK xs x.op x.bf x.key).2) with sT | sT
  ·skip
   rcases c7 (decide (((tK xs x.op x.bf x.key).1)<=x.val)) with kG | kG
   ·skip
    rw[show eb kind xs x=(xs,false) from by grind[eb,oO]];exact am2 ⟨(by first | omega | (simp only[bm,b9];omega) | exact cr _ Cell.flat _ | grind[az]),(by first | omega | (simp only[bm,b9];omega) | exact cr _ Cell.flat _ | grind[az]),(by first | omega | (simp only[bm,b9];omega) | exact cr _ Cell.flat _ | grind[az]),h1,aV,hM,nf,sT,kG,aa⟩
   skip
   
   have Wb:=AF (xs.filter fun a=>!gx x a) x (by omega);rw[show eb kind xs x=((nW (xs.filter fun a=>!gx x a) x),true) from by grind[eb,oO]];exact am3 ⟨(by first | omega | (simp only[bm,b9];omega) | exact cr _ Cell.flat _ | grind[az]),(by first | omega | (simp only[bm,b9];omega) | exact cr _ Cell.flat _ | grind[az]),(by first | omega | (simp only[bm,b9];omega) | exact cr _ Cell.flat _ | grind[az]),h1,aV,hM,nf,sT,kG,(DV xs x ak),Wb,aa⟩
  skip
  
  have BO:=AF (xs.filter fun a=>!gx x a) x (by omega);rw[show eb kind xs x=((nW (xs.filter fun a=>!gx x a) x),true) from by grind[eb,oO]];exact am4 ⟨(by first | omega | (simp only[bm,b9];omega) | exact cr _ Cell.flat _ | grind[az]),(by first | omega | (simp only[bm,b9];omega) | exact cr _ Cell.flat _ | grind[az]),(by first | omega | (simp only[bm,b9];omega) | exact cr _ Cell.flat _ | grind[az]),h1,aV,hM,nf,sT,(DV xs x ak),BO,aa⟩
 skip
 rw[show eb kind xs x=(xs,true) from by grind[eb,oO]];exact am5 ⟨(by first | omega | (simp only[bm,b9];omega) | exact cr _ Cell.flat _ | grind[az]),(by first | omega | (simp only[bm,b9];omega) | exact cr _ Cell.flat _ | grind[az]),(by first | omega | (simp only[bm,b9];omega) | exact cr _ Cell.flat _ | grind[az]),h1,aV,hM,aa⟩
def jY(x:Node)(s:gr)(key val:Int):List aA:=x.outs.map fun k=>⟨k,s,key,val⟩
def cellOf(r:aA):Cell:=⟨r.op,r.bx.bf,r.key,r.val⟩
def e8(g:b1)(cs:List Cell)(r:aA)(x:Node):List Cell×List aA×Bool:=
 if eA g&&fe r then
  if !(dQ x r.key r.val).2.2&&x.kind != 8 then (cs,[],true)
  else if !(eb x.kind cs ⟨r.op,r.bx.bf,r.key,r.val⟩).2 then ((eb x.kind cs ⟨r.op,r.bx.bf,r.key,r.val⟩).1,[],true)
  else if x.kind=7 then
   ((eb x.kind cs ⟨r.op,r.bx.bf,r.key,r.val⟩).1,(bif (gV r.bx).2 then jY x (gV r.bx).1 (dQ x r.key r.val).1 (dQ x r.key r.val).2.1 else []),true)
  else ((eb x.kind cs ⟨r.op,r.bx.bf,r.key,r.val⟩).1,jY x r.bx (dQ x r.key r.val).1 (dQ x r.key r.val).2.1,true)
 else (cs,[],false)
theorem DW(x:Node)(s:gr)(key val:Int){i:Nat}{k:Int}(h:x.outs[i]?=some k):(((x.outs.take (i+1)).map fun k=>(⟨k,s,key,val⟩:aA)).map aA.e)=(((x.outs.take i).map fun k=>(⟨k,s,key,val⟩:aA)).map aA.e)++[(⟨k,s,key,val⟩:aA).e]:=by
 simp[sE,h]
theorem Sc(x:Node)(ag:x.outs.length<=8388608)(s:gr)(key val:Int)(lQ:List (List D)):c0 prog (ar f176 0) (vn x.kind x.a x.b (x.outs.map a8) key val lQ s.bf s.dS 0 []) (.exit 0) (tg lQ ((jY x s key val).map aA.e)):=by
 have l:=e7 (P:=prog) (c:=(ar f176 0)) (cM 0) x.outs.length (fun i:Nat=>vn x.kind x.a x.b (x.outs.map a8) key val lQ s.bf s.dS i (((x.outs.take i).map fun k=>(⟨k,s,key,val⟩:aA)).map aA.e)) (fun i hi=>by
  obtain⟨k,hk⟩:=cY hi;rw[DW x s key val hk];exact aaO ⟨cf hi,bG,bL hi,bF a8 hk,by simp;omega,by simp;omega,dG (aA.flat ⟨k,s,key,val⟩),dw hi ag,aa⟩) (aaP ⟨dU,aa⟩)
 rw[k1]at l;exact l
theorem Sd(x:Node)(ag:x.outs.length<=8388608)(s:gr)(key val:Int)(lQ:List (List D)):c0 prog (ar f176 0) (vo s.bf s.dS x.kind x.a x.b (x.outs.map a8) key val lQ 0 []) (.exit 0) (tg lQ ((jY x s key val).map aA.e)):=by
 have l:=e7 (P:=prog) (c:=(ar f176 0)) (cM 0) x.outs.length (fun i:Nat=>vo s.bf s.dS x.kind x.a x.b (x.outs.map a8) key val lQ i (((x.outs.take i).map fun k=>(⟨k,s,key,val⟩:aA)).map aA.e)) (fun i hi=>by
  obtain⟨k,hk⟩:=cY hi;rw[DW x s key val hk];exact aaR ⟨cf hi,bG,bL hi,bF a8 hk,by simp;omega,by simp;omega,dG (aA.flat ⟨k,s,key,val⟩),dw hi ag,aa⟩) (aaS ⟨dU,aa⟩)
 rw[k1]at l;exact l
theorem Se(x:Node)(ag:x.outs.length<=8388608)(s:gr)(key val:Int)(lQ:List (List D)):c0 prog (ar f176 0) (vp lQ x.kind x.a x.b (x.outs.map a8) key val s.bf s.dS 0 []) (.exit 0) (th lQ ((jY x s key val).map aA.e)):=by
 have l:=e7 (P:=prog) (c:=(ar f176 0)) (cM 0) x.outs.length (fun i:Nat=>vp lQ x.kind x.a x.b (x.outs.map a8) key val s.bf s.dS i (((x.outs.take i).map fun k=>(⟨k,s,key,val⟩:aA)).map aA.e)) (fun i hi=>by
  obtain⟨k,hk⟩:=cY hi;rw[DW x s key val hk];exact acp ⟨cf hi,bG,bL hi,bF a8 hk,by simp;omega,by simp;omega,dG (aA.flat ⟨k,s,key,val⟩),dw hi ag,aa⟩) (acq ⟨dU,aa⟩)
 rw[k1]at l;exact l
theorem Sf(x:Node)(ag:x.outs.length<=8388608)(s:gr)(key val:Int)(lQ:List (List D)):c0 prog (ar f176 0) (vq lQ s.bf s.dS x.kind x.a x.b (x.outs.map a8) key val 0 []) (.exit 0) (th lQ ((jY x s key val).map aA.e)):=by
 have l:=e7 (P:=prog) (c:=(ar f176 0)) (cM 0) x.outs.length (fun i:Nat=>vq lQ s.bf s.dS x.kind x.a x.b (x.outs.map a8) key val i (((x.outs.take i).map fun k=>(⟨k,s,key,val⟩:aA)).map aA.e)) (fun i hi=>by
  obtain⟨k,hk⟩:=cY hi;rw[DW x s key val hk];exact acs ⟨cf hi,bG,bL hi,bF a8 hk,by simp;omega,by simp;omega,dG (aA.flat ⟨k,s,key,val⟩),dw hi ag,aa⟩) (acu ⟨dU,aa⟩)
 rw[k1]at l;exact l
theorem acF(g:b1)(cs:List Cell)(r:aA)(x:Node)(au:g.sz<=8388608)(ak:cs.length<=8388608)(aT:hl g r.op=some x):av 176 [.agg g.e,.one (.J 4 (cs.map Cell.e)),.agg r.e] [.one (.J 4 ((e8 g cs r x).1.map Cell.e)),.one (.J 5 ((e8 g cs r x).2.1.map aA.e)),.one (B (e8 g cs r x).2.2)]:=by
 have ag:=b1.Cx au (R9 aT);obtain⟨mC,qB,_,_⟩:=JX aT;have dO:g.nodes[r.op.toNat]?=some x:=by have:=aT;unfold hl at this;rwa[br mC]at this
 have c1:=DU g r.op (x,true) (by unfold tR;rw[aT]) au;have c2:=xK g au;rcases c7 (eA g) with ax | ax
 ·skip
  have ef:=si r;rcases c7 (fe r) with aV | aV
  ·skip
   have j6:=aq2 x r.key r.val ag;rcases c7 ((dQ x r.key r.val).2.2) with bX | bX
   ·skip
    have rv:=Sa x.kind;rcases c7 (hX x.kind) with ed | ed
    ·skip
     have wu:=Sb x.kind cs (⟨r.op,r.bx.bf,r.key,r.val⟩:Cell) (by omega);rcases c7 ((eb x.kind cs (⟨r.op,r.bx.bf,r.key,r.val⟩:Cell)).2) with hM | hM
     ·skip
      rcases c7 (x.kind==7) with j7 | j7
      ·skip
       have oe:=xJ r.bx;rcases c7 ((gV r.bx).2) with kG | kG
       ·skip
        
        rw[show e8 g cs r x=(((eb x.kind cs (⟨r.op,r.bx.bf,r.key,r.val⟩:Cell)).1),(jY x ((gV r.bx).1) ((dQ x r.key r.val).1) ((dQ x r.key r.val).2.1)),true) from by grind[e8,hX,eb]];exact acy ⟨(by first | omega | (simp only[bm,b9];omega) | exact cr _ Cell.flat _ | grind[az]),(by first | omega | (simp only[bm,b9];omega) | exact cr _ Cell.flat _ | grind[az]),(by first | omega | (simp only[bm,b9];omega) | exact cr _ Cell.flat _ | grind[az]),c1,rfl,c2,(by rw[ax];rfl),ef,(by rw[aV];rfl),j6,(by rw[bX];rfl),rv,ed,wu,(by rw[hM];rfl),j7,oe,(by rw[kG];rfl),(Sc x ag ((gV r.bx).1) ((dQ x r.key r.val).1) ((dQ x r.key r.val).2.1) _),aa⟩
       skip
       rw[show e8 g cs r x=(((eb x.kind cs (⟨r.op,r.bx.bf,r.key,r.val⟩:Cell)).1),([]:List aA),true) from by grind[e8,hX,eb]];exact acx ⟨(by first | omega | (simp only[bm,b9];omega) | exact cr _ Cell.flat _ | grind[az]),(by first | omega | (simp only[bm,b9];omega) | exact cr _ Cell.flat _ | grind[az]),(by first | omega | (simp only[bm,b9];omega) | exact cr _ Cell.flat _ | grind[az]),c1,rfl,c2,(by rw[ax];rfl),ef,(by rw[aV];rfl),j6,(by rw[bX];rfl),rv,ed,wu,(by rw[hM];rfl),j7,oe,(by rw[kG];rfl),aa⟩
      skip
      
      rw[show e8 g cs r x=(((eb x.kind cs (⟨r.op,r.bx.bf,r.key,r.val⟩:Cell)).1),(jY x r.bx ((dQ x r.key r.val).1) ((dQ x r.key r.val).2.1)),true) from by grind[e8,hX,eb]];exact acz ⟨(by first | omega | (simp only[bm,b9];omega) | exact cr _ Cell.flat _ | grind[az]),(by first | omega | (simp only[bm,b9];omega) | exact cr _ Cell.flat _ | grind[az]),(by first | omega | (simp only[bm,b9];omega) | exact cr _ Cell.flat _ | grind[az]),c1,rfl,c2,(by rw[ax];rfl),ef,(by rw[aV];rfl),j6,(by rw[bX];rfl),rv,ed,wu,(by rw[hM];rfl),j7,(Sd x ag r.bx ((dQ x r.key r.val).1) ((dQ x r.key r.val).2.1) _),aa⟩
     skip
     rw[show e8 g cs r x=(((eb x.kind cs (⟨r.op,r.bx.bf,r.key,r.val⟩:Cell)).1),([]:List aA),true) from by grind[e8,hX,eb]];exact acw ⟨(by first | omega | (simp only[bm,b9];omega) | exact cr _ Cell.flat _ | grind[az]),(by first | omega | (simp only[bm,b9];omega) | exact cr _ Cell.flat _ | grind[az]),(by first | omega | (simp only[bm,b9];omega) | exact cr _ Cell.flat _ | grind[az]),c1,rfl,c2,(by rw[ax];rfl),ef,(by rw[aV];rfl),j6,(by rw[bX];rfl),rv,ed,wu,(by rw[hM];rfl),aa⟩
    skip
    rcases c7 (x.kind==7) with kH | kH
    ·skip
     have BO:=xJ r.bx;rcases c7 ((gV r.bx).2) with qq | qq
     ·skip
      
      rw[show e8 g cs r x=(cs,(jY x ((gV r.bx).1) ((dQ x r.key r.val).1) ((dQ x r.key r.val).2.1)),true) from by grind[e8,hX,eb]];exact acB ⟨(by first | omega | (simp only[bm,b9];omega) | exact cr _ Cell.flat _ | grind[az]),(by first | omega | (simp only[bm,b9];omega) | exact cr _ Cell.flat _ | grind[az]),(by first | omega | (simp only[bm,b9];omega) | exact cr _ Cell.flat _ | grind[az]),c1,rfl,c2,(by rw[ax];rfl),ef,(by rw[aV];rfl),j6,(by rw[bX];rfl),rv,ed,kH,BO,(by rw[qq];rfl),(Se x ag ((gV r.bx).1) ((dQ x r.key r.val).1) ((dQ x r.key r.val).2.1) _),aa⟩
     skip
     rw[show e8 g cs r x=(cs,([]:List aA),true) from by grind[e8,hX,eb]];exact acA ⟨(by first | omega | (simp only[bm,b9];omega) | exact cr _ Cell.flat _ | grind[az]),(by first | omega | (simp only[bm,b9];omega) | exact cr _ Cell.flat _ | grind[az]),(by first | omega | (simp only[bm,b9];omega) | exact cr _ Cell.flat _ | grind[az]),c1,rfl,c2,(by rw[ax];rfl),ef,(by rw[aV];rfl),j6,(by rw[bX];rfl),rv,ed,kH,BO,(by rw[qq];rfl),aa⟩
    skip
    
    rw[show e8 g cs r x=(cs,(jY x r.bx ((dQ x r.key r.val).1) ((dQ x r.key r.val).2.1)),true) from by grind[e8,hX,eb]];exact acC ⟨(by first | omega | (simp only[bm,b9];omega) | exact cr _ Cell.flat _ | grind[az]),(by first | omega | (simp only[bm,b9];omega) | exact cr _ Cell.flat _ | grind[az]),(by first | omega | (simp only[bm,b9];omega) | exact cr _ Cell.flat _ | grind[az]),c1,rfl,c2,(by rw[ax];rfl),ef,(by rw[aV];rfl),j6,(by rw[bX];rfl),rv,ed,kH,(Sf x ag r.bx ((dQ x r.key r.val).1) ((dQ x r.key r.val).2.1) _),aa⟩
   skip
   rcases c7 (x.kind != 8) with gE | gE
   ·skip
    rw[show e8 g cs r x=(cs,([]:List aA),true) from by grind[e8,hX,eb]];exact aaL ⟨(by first | omega | (simp only[bm,b9];omega) | exact cr _ Cell.flat _ | grind[az]),(by first | omega | (simp only[bm,b9];omega) | exact cr _ Cell.flat _ | grind[az]),(by first | omega | (simp only[bm,b9];omega) | exact cr _ Cell.flat _ | grind[az]),c1,rfl,c2,(by rw[ax];rfl),ef,(by rw[aV];rfl),j6,(by rw[bX];rfl),gE,aa⟩
   skip
   have jl:=Sa x.kind;rcases c7 (hX x.kind) with eS | eS
   ·skip
    have mi:=Sb x.kind cs (⟨r.op,r.bx.bf,r.key,r.val⟩:Cell) (by omega);rcases c7 ((eb x.kind cs (⟨r.op,r.bx.bf,r.key,r.val⟩:Cell)).2) with kI | kI
    ·skip
     rcases c7 (x.kind==7) with jo | jo
     ·skip
      have MP:=xJ r.bx;rcases c7 ((gV r.bx).2) with pk | pk
      ·skip
       
       rw[show e8 g cs r x=(((eb x.kind cs (⟨r.op,r.bx.bf,r.key,r.val⟩:Cell)).1),(jY x ((gV r.bx).1) ((dQ x r.key r.val).1) ((dQ x r.key r.val).2.1)),true) from by grind[e8,hX,eb]];exact aaQ ⟨(by first | omega | (simp only[bm,b9];omega) | exact cr _ Cell.flat _ | grind[az]),(by first | omega | (simp only[bm,b9];omega) | exact cr _ Cell.flat _ | grind[az]),(by first | omega | (simp only[bm,b9];omega) | exact cr _ Cell.flat _ | grind[az]),c1,rfl,c2,(by rw[ax];rfl),ef,(by rw[aV];rfl),j6,(by rw[bX];rfl),gE,jl,eS,mi,(by rw[kI];rfl),jo,MP,(by rw[pk];rfl),(Sc x ag ((gV r.bx).1) ((dQ x r.key r.val).1) ((dQ x r.key r.val).2.1) _),aa⟩
      skip
      rw[show e8 g cs r x=(((eb x.kind cs (⟨r.op,r.bx.bf,r.key,r.val⟩:Cell)).1),([]:List aA),true) from by grind[e8,hX,eb]];exact aaN ⟨(by first | omega | (simp only[bm,b9];omega) | exact cr _ Cell.flat _ | grind[az]),(by first | omega | (simp only[bm,b9];omega) | exact cr _ Cell.flat _ | grind[az]),(by first | omega | (simp only[bm,b9];omega) | exact cr _ Cell.flat _ | grind[az]),c1,rfl,c2,(by rw[ax];rfl),ef,(by rw[aV];rfl),j6,(by rw[bX];rfl),gE,jl,eS,mi,(by rw[kI];rfl),jo,MP,(by rw[pk];rfl),aa⟩
     skip
     
     rw[show e8 g cs r x=(((eb x.kind cs (⟨r.op,r.bx.bf,r.key,r.val⟩:Cell)).1),(jY x r.bx ((dQ x r.key r.val).1) ((dQ x r.key r.val).2.1)),true) from by grind[e8,hX,eb]];exact acn ⟨(by first | omega | (simp only[bm,b9];omega) | exact cr _ Cell.flat _ | grind[az]),(by first | omega | (simp only[bm,b9];omega) | exact cr _ Cell.flat _ | grind[az]),(by first | omega | (simp only[bm,b9];omega) | exact cr _ Cell.flat _ | grind[az]),c1,rfl,c2,(by rw[ax];rfl),ef,(by rw[aV];rfl),j6,(by rw[bX];rfl),gE,jl,eS,mi,(by rw[kI];rfl),jo,(Sd x ag r.bx ((dQ x r.key r.val).1) ((dQ x r.key r.val).2.1) _),aa⟩
    skip
    rw[show e8 g cs r x=(((eb x.kind cs (⟨r.op,r.bx.bf,r.key,r.val⟩:Cell)).1),([]:List aA),true) from by grind[e8,hX,eb]];exact aaM ⟨(by first | omega | (simp only[bm,b9];omega) | exact cr _ Cell.flat _ | grind[az]),(by first | omega | (simp only[bm,b9];omega) | exact cr _ Cell.flat _ | grind[az]),(by first | omega | (simp only[bm,b9];omega) | exact cr _ Cell.flat _ | grind[az]),c1,rfl,c2,(by rw[ax];rfl),ef,(by rw[aV];rfl),j6,(by rw[bX];rfl),gE,jl,eS,mi,(by rw[kI];rfl),aa⟩
   skip
   rcases c7 (x.kind==7) with po | po
   ·skip
    have MQ:=xJ r.bx;rcases c7 ((gV r.bx).2) with nm | nm
    ·skip
     
     rw[show e8 g cs r x=(cs,(jY x ((gV r.bx).1) ((dQ x r.key r.val).1) ((dQ x r.key r.val).2.1)),true) from by grind[e8,hX,eb]];exact acr ⟨(by first | omega | (simp only[bm,b9];omega) | exact cr _ Cell.flat _ | grind[az]),(by first | omega | (simp only[bm,b9];omega) | exact cr _ Cell.flat _ | grind[az]),(by first | omega | (simp only[bm,b9];omega) | exact cr _ Cell.flat _ | grind[az]),c1,rfl,c2,(by rw[ax];rfl),ef,(by rw[aV];rfl),j6,(by rw[bX];rfl),gE,jl,eS,po,MQ,(by rw[nm];rfl),(Se x ag ((gV r.bx).1) ((dQ x r.key r.val).1) ((dQ x r.key r.val).2.1) _),aa⟩
    skip
    rw[show e8 g cs r x=(cs,([]:List aA),true) from by grind[e8,hX,eb]];exact aco ⟨(by first | omega | (simp only[bm,b9];omega) | exact cr _ Cell.flat _ | grind[az]),(by first | omega | (simp only[bm,b9];omega) | exact cr _ Cell.flat _ | grind[az]),(by first | omega | (simp only[bm,b9];omega) | exact cr _ Cell.flat _ | grind[az]),c1,rfl,c2,(by rw[ax];rfl),ef,(by rw[aV];rfl),j6,(by rw[bX];rfl),gE,jl,eS,po,MQ,(by rw[nm];rfl),aa⟩
   skip
   
   rw[show e8 g cs r x=(cs,(jY x r.bx ((dQ x r.key r.val).1) ((dQ x r.key r.val).2.1)),true) from by grind[e8,hX,eb]];exact acv ⟨(by first | omega | (simp only[bm,b9];omega) | exact cr _ Cell.flat _ | grind[az]),(by first | omega | (simp only[bm,b9];omega) | exact cr _ Cell.flat _ | grind[az]),(by first | omega | (simp only[bm,b9];omega) | exact cr _ Cell.flat _ | grind[az]),c1,rfl,c2,(by rw[ax];rfl),ef,(by rw[aV];rfl),j6,(by rw[bX];rfl),gE,jl,eS,po,(Sf x ag r.bx ((dQ x r.key r.val).1) ((dQ x r.key r.val).2.1) _),aa⟩
  skip
  rw[show e8 g cs r x=(cs,([]:List aA),false) from by grind[e8,hX,eb]];exact aaK ⟨(by first | omega | (simp only[bm,b9];omega) | exact cr _ Cell.flat _ | grind[az]),(by first | omega | (simp only[bm,b9];omega) | exact cr _ Cell.flat _ | grind[az]),(by first | omega | (simp only[bm,b9];omega) | exact cr _ Cell.flat _ | grind[az]),c1,rfl,c2,(by rw[ax];rfl),ef,(by rw[aV];rfl),aa⟩
 skip
 rw[show e8 g cs r x=(cs,([]:List aA),false) from by grind[e8,hX,eb]];exact aaJ ⟨(by first | omega | (simp only[bm,b9];omega) | exact cr _ Cell.flat _ | grind[az]),(by first | omega | (simp only[bm,b9];omega) | exact cr _ Cell.flat _ | grind[az]),(by first | omega | (simp only[bm,b9];omega) | exact cr _ Cell.flat _ | grind[az]),c1,rfl,c2,(by rw[ax];rfl),aa⟩
