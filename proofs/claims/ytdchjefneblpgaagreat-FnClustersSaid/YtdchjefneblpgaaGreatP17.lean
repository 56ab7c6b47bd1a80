import Derived.Test.YtdchjefneblpgaaGreatP15
import Derived.Test.YtdchjefneblpgaaGreatGS
set_option linter.unusedVariables false
set_option linter.unusedSimpArgs false
namespace Go.Proofs.YtdchjefneblpgaaGreat
open Go.Sx Go.RowKit Go.Proofs.Tryz
def ii(k:Int):Bool:=k==5||k==6||k==8
def lb(xs:List Cell)(x:Cell):List Cell×Bool:=
 if (rU xs x.op x.bh x.key).2&&decide ((rU xs x.op x.bh x.key).1<=x.val) then (xs,false) else (mQ (xs.filter fun a=>!fN x a) x,true)
def c5(kind:Int)(xs:List Cell)(x:Cell):List Cell×Bool:=
 if kind=6 then (if te xs x then (xs,false) else (mQ xs x,true))
 else if kind=5\/kind=8 then lb xs x
 else (xs,true)
theorem Uj(k:Int):aw 268 [.one (I k)] [.one (B (ii k))]:=by
 rcases dp (k==5) with h1 | h1
 ·skip
  rw[show ii k=true from by grind[ii]];exact avu ⟨h1,ad⟩
 skip
 rcases dp (k==6) with U | U
 ·skip
  rw[show ii k=true from by grind[ii]];exact avv ⟨h1,U,ad⟩
 skip
 rw[show ii k=(k==8) from by grind[ii]];exact avw ⟨h1,U,ad⟩
theorem ag6(xs acc:List Cell)(x:Cell)(ag:xs.length<=8388608)(i:Nat)(ak:acc.length<=i)(a:Cell)(ae:xs[i]?=some a):gl prog (aq f269 0) (lF (xs.map Cell.e) x.op x.bh x.key x.val i (acc.map Cell.e)) .normal (lF (xs.map Cell.e) x.op x.bh x.key x.val ((i+1:Nat):Int) ((acc++(bif fN x a then [] else [a])).map Cell.e)):=by
 have bd:=aP ae;have ef:xs[(i:Int).toNat]?=some a:=by simpa using ae
 have eR:decide ((i:Int)<(↑(xs.map Cell.e).length:Int))=true:=bV bd;rcases dp (a.op != x.op) with h1 | h1
 ·skip
  have ai:fN x a=false:=by grind[fN]
  rw[ai];rw[show (acc++(bif false then [] else [a])).map Cell.e=acc.map Cell.e++[a.e] from by simp];exact avA ⟨eR,(by first | omega | (simp only[bA,dK,ch];omega) | exact dU a.flat | (exact⟨by omega,by omega⟩)),(by first | omega | (simp only[bA,dK,ch];omega) | exact dU a.flat | (exact⟨by omega,by omega⟩)),(bW Cell.e ef),h1,(by first | omega | (simp only[bA,dK,ch];omega) | exact dU a.flat | (exact⟨by omega,by omega⟩)),(by first | omega | (simp only[bA,dK,ch];omega) | exact dU a.flat | (exact⟨by omega,by omega⟩)),(bW Cell.e ef),(by first | omega | (simp only[bA,dK,ch];omega) | exact dU a.flat | (exact⟨by omega,by omega⟩)),(by first | omega | (simp only[bA,dK,ch];omega) | exact dU a.flat | (exact⟨by omega,by omega⟩)),(by first | omega | (simp only[bA,dK,ch];omega) | exact dU a.flat | (exact⟨by omega,by omega⟩)),(by first | omega | (simp only[bA,dK,ch];omega) | exact dU a.flat | (exact⟨by omega,by omega⟩)),ad⟩
 skip
 rcases dp (a.bh != x.bh) with U | U
 ·skip
  have ai:fN x a=false:=by grind[fN]
  rw[ai];rw[show (acc++(bif false then [] else [a])).map Cell.e=acc.map Cell.e++[a.e] from by simp];exact avB ⟨eR,(by first | omega | (simp only[bA,dK,ch];omega) | exact dU a.flat | (exact⟨by omega,by omega⟩)),(by first | omega | (simp only[bA,dK,ch];omega) | exact dU a.flat | (exact⟨by omega,by omega⟩)),(bW Cell.e ef),h1,(by first | omega | (simp only[bA,dK,ch];omega) | exact dU a.flat | (exact⟨by omega,by omega⟩)),(by first | omega | (simp only[bA,dK,ch];omega) | exact dU a.flat | (exact⟨by omega,by omega⟩)),(bW Cell.e ef),U,(by first | omega | (simp only[bA,dK,ch];omega) | exact dU a.flat | (exact⟨by omega,by omega⟩)),(by first | omega | (simp only[bA,dK,ch];omega) | exact dU a.flat | (exact⟨by omega,by omega⟩)),(bW Cell.e ef),(by first | omega | (simp only[bA,dK,ch];omega) | exact dU a.flat | (exact⟨by omega,by omega⟩)),(by first | omega | (simp only[bA,dK,ch];omega) | exact dU a.flat | (exact⟨by omega,by omega⟩)),(by first | omega | (simp only[bA,dK,ch];omega) | exact dU a.flat | (exact⟨by omega,by omega⟩)),(by first | omega | (simp only[bA,dK,ch];omega) | exact dU a.flat | (exact⟨by omega,by omega⟩)),ad⟩
 skip
 rcases dp (a.key != x.key) with ax | ax
 ·skip
  have ai:fN x a=false:=by grind[fN]
  rw[ai];rw[show (acc++(bif false then [] else [a])).map Cell.e=acc.map Cell.e++[a.e] from by simp];exact avC ⟨eR,(by first | omega | (simp only[bA,dK,ch];omega) | exact dU a.flat | (exact⟨by omega,by omega⟩)),(by first | omega | (simp only[bA,dK,ch];omega) | exact dU a.flat | (exact⟨by omega,by omega⟩)),(bW Cell.e ef),h1,(by first | omega | (simp only[bA,dK,ch];omega) | exact dU a.flat | (exact⟨by omega,by omega⟩)),(by first | omega | (simp only[bA,dK,ch];omega) | exact dU a.flat | (exact⟨by omega,by omega⟩)),(bW Cell.e ef),U,(by first | omega | (simp only[bA,dK,ch];omega) | exact dU a.flat | (exact⟨by omega,by omega⟩)),(by first | omega | (simp only[bA,dK,ch];omega) | exact dU a.flat | (exact⟨by omega,by omega⟩)),(bW Cell.e ef),ax,(by first | omega | (simp only[bA,dK,ch];omega) | exact dU a.flat | (exact⟨by omega,by omega⟩)),(by first | omega | (simp only[bA,dK,ch];omega) | exact dU a.flat | (exact⟨by omega,by omega⟩)),(bW Cell.e ef),(by first | omega | (simp only[bA,dK,ch];omega) | exact dU a.flat | (exact⟨by omega,by omega⟩)),(by first | omega | (simp only[bA,dK,ch];omega) | exact dU a.flat | (exact⟨by omega,by omega⟩)),(by first | omega | (simp only[bA,dK,ch];omega) | exact dU a.flat | (exact⟨by omega,by omega⟩)),(by first | omega | (simp only[bA,dK,ch];omega) | exact dU a.flat | (exact⟨by omega,by omega⟩)),ad⟩
 skip
 have ai:fN x a=true:=by grind[fN]
 rw[ai];rw[show (acc++(bif true then [] else [a])).map Cell.e=acc.map Cell.e from by simp];exact avD ⟨eR,(by first | omega | (simp only[bA,dK,ch];omega) | exact dU a.flat | (exact⟨by omega,by omega⟩)),(by first | omega | (simp only[bA,dK,ch];omega) | exact dU a.flat | (exact⟨by omega,by omega⟩)),(bW Cell.e ef),h1,(by first | omega | (simp only[bA,dK,ch];omega) | exact dU a.flat | (exact⟨by omega,by omega⟩)),(by first | omega | (simp only[bA,dK,ch];omega) | exact dU a.flat | (exact⟨by omega,by omega⟩)),(bW Cell.e ef),U,(by first | omega | (simp only[bA,dK,ch];omega) | exact dU a.flat | (exact⟨by omega,by omega⟩)),(by first | omega | (simp only[bA,dK,ch];omega) | exact dU a.flat | (exact⟨by omega,by omega⟩)),(bW Cell.e ef),ax,(by first | omega | (simp only[bA,dK,ch];omega) | exact dU a.flat | (exact⟨by omega,by omega⟩)),ad⟩
theorem ag7(p:Cell->Bool){xs:List Cell}{i:Nat}{a:Cell}(h:xs[i]?=some a):(xs.take (i+1)).filter (fun b=>!p b)=(xs.take i).filter (fun b=>!p b)++(bif p a then [] else [a]):=by
 rw[Bz _ h];cases p a<;>rfl
theorem En(xs:List Cell)(x:Cell)(ag:xs.length<=8388608):c' prog (aq f269 0) (lF (xs.map Cell.e) x.op x.bh x.key x.val 0 []) (.exit 1) (yU x.op x.bh x.key x.val ((xs.filter fun a=>!fN x a).map Cell.e)):=by
 have l:=e6 (P:=prog) (c:=(aq f269 0)) (cC 1) xs.length (fun i:Nat=>lF (xs.map Cell.e) x.op x.bh x.key x.val i (((xs.take i).filter fun a=>!fN x a).map Cell.e)) (fun i hi=>by
  obtain⟨a,ae⟩:=db hi;rw[ag7 (fN x) ae];exact ag6 xs _ x ag i (LS _ xs i) a ae) (avE ⟨dk,ad⟩)
 rw[lh]at l;exact l
theorem Uk(kind:Int)(xs:List Cell)(x:Cell)(ag:xs.length<=8388608):aw 269 [.one (I kind),.one (.J 4 (xs.map Cell.e)),.agg x.e] [.one (.J 4 (((c5 kind xs x).1).map Cell.e)),.one (B ((c5 kind xs x).2))]:=by
 have bw:=r9 (fun a=>!fN x a) xs;rcases dp (kind==6) with h1 | h1
 ·skip
  have c2:=T6 xs x (by omega);rcases dp (te xs x) with ax | ax
  ·skip
   rw[show c5 kind xs x=(xs,false) from by grind[c5,lb]];exact avx ⟨(by first | omega | (simp only[bA,ch];omega) | exact cM _ Cell.flat _ | grind[aG]),(by first | omega | (simp only[bA,ch];omega) | exact cM _ Cell.flat _ | grind[aG]),(by first | omega | (simp only[bA,ch];omega) | exact cM _ Cell.flat _ | grind[aG]),h1,c2,ax,ad⟩
  skip
  have eG:=B4 xs x (by omega);rw[show c5 kind xs x=((mQ xs x),true) from by grind[c5,lb]];exact avy ⟨(by first | omega | (simp only[bA,ch];omega) | exact cM _ Cell.flat _ | grind[aG]),(by first | omega | (simp only[bA,ch];omega) | exact cM _ Cell.flat _ | grind[aG]),(by first | omega | (simp only[bA,ch];omega) | exact cM _ Cell.flat _ | grind[aG]),h1,c2,ax,eG,ad⟩
 skip
 rcases dp (kind==5) with a7 | a7
 ·skip
  have kF:=Ui xs x.op x.bh x.key (by omega);rcases dp ((rU xs x.op x.bh x.key).2) with b6 | b6
  ·skip
   rcases dp (decide (((rU xs x.op x.bh x.key).1)<=x.val)) with dn | dn
   ·skip
    rw[show c5 kind xs x=(xs,false) from by grind[c5,lb]];exact avz ⟨(by first | omega | (simp only[bA,ch];omega) | exact cM _ Cell.flat _ | grind[aG]),(by first | omega | (simp only[bA,ch];omega) | exact cM _ Cell.flat _ | grind[aG]),(by first | omega | (simp only[bA,ch];omega) | exact cM _ Cell.flat _ | grind[aG]),h1,a7,a7,kF,b6,dn,ad⟩
   skip
   
   have ZX:=B4 (xs.filter fun a=>!fN x a) x (by omega);rw[show c5 kind xs x=((mQ (xs.filter fun a=>!fN x a) x),true) from by grind[c5,lb]];exact avF ⟨(by first | omega | (simp only[bA,ch];omega) | exact cM _ Cell.flat _ | grind[aG]),(by first | omega | (simp only[bA,ch];omega) | exact cM _ Cell.flat _ | grind[aG]),(by first | omega | (simp only[bA,ch];omega) | exact cM _ Cell.flat _ | grind[aG]),h1,a7,a7,kF,b6,dn,(En xs x ag),ZX,ad⟩
  skip
  
  have x5:=B4 (xs.filter fun a=>!fN x a) x (by omega);rw[show c5 kind xs x=((mQ (xs.filter fun a=>!fN x a) x),true) from by grind[c5,lb]];exact avG ⟨(by first | omega | (simp only[bA,ch];omega) | exact cM _ Cell.flat _ | grind[aG]),(by first | omega | (simp only[bA,ch];omega) | exact cM _ Cell.flat _ | grind[aG]),(by first | omega | (simp only[bA,ch];omega) | exact cM _ Cell.flat _ | grind[aG]),h1,a7,a7,kF,b6,(En xs x ag),x5,ad⟩
 skip
 rcases dp (kind==8) with h7 | h7
 ·skip
  have n':=Ui xs x.op x.bh x.key (by omega);rcases dp ((rU xs x.op x.bh x.key).2) with tR | tR
  ·skip
   rcases dp (decide (((rU xs x.op x.bh x.key).1)<=x.val)) with lo | lo
   ·skip
    rw[show c5 kind xs x=(xs,false) from by grind[c5,lb]];exact avH ⟨(by first | omega | (simp only[bA,ch];omega) | exact cM _ Cell.flat _ | grind[aG]),(by first | omega | (simp only[bA,ch];omega) | exact cM _ Cell.flat _ | grind[aG]),(by first | omega | (simp only[bA,ch];omega) | exact cM _ Cell.flat _ | grind[aG]),h1,a7,h7,n',tR,lo,ad⟩
   skip
   
   have ZV:=B4 (xs.filter fun a=>!fN x a) x (by omega);rw[show c5 kind xs x=((mQ (xs.filter fun a=>!fN x a) x),true) from by grind[c5,lb]];exact avI ⟨(by first | omega | (simp only[bA,ch];omega) | exact cM _ Cell.flat _ | grind[aG]),(by first | omega | (simp only[bA,ch];omega) | exact cM _ Cell.flat _ | grind[aG]),(by first | omega | (simp only[bA,ch];omega) | exact cM _ Cell.flat _ | grind[aG]),h1,a7,h7,n',tR,lo,(En xs x ag),ZV,ad⟩
  skip
  
  have Dk:=B4 (xs.filter fun a=>!fN x a) x (by omega);rw[show c5 kind xs x=((mQ (xs.filter fun a=>!fN x a) x),true) from by grind[c5,lb]];exact avJ ⟨(by first | omega | (simp only[bA,ch];omega) | exact cM _ Cell.flat _ | grind[aG]),(by first | omega | (simp only[bA,ch];omega) | exact cM _ Cell.flat _ | grind[aG]),(by first | omega | (simp only[bA,ch];omega) | exact cM _ Cell.flat _ | grind[aG]),h1,a7,h7,n',tR,(En xs x ag),Dk,ad⟩
 skip
 rw[show c5 kind xs x=(xs,true) from by grind[c5,lb]];exact avK ⟨(by first | omega | (simp only[bA,ch];omega) | exact cM _ Cell.flat _ | grind[aG]),(by first | omega | (simp only[bA,ch];omega) | exact cM _ Cell.flat _ | grind[aG]),(by first | omega | (simp only[bA,ch];omega) | exact cM _ Cell.flat _ | grind[aG]),h1,a7,h7,ad⟩
def fv(x:Node)(s:hG)(key val:Int):List aB:=x.outs.map fun k=>⟨k,s,key,val⟩
def cellOf(r:aB):Cell:=⟨r.op,r.bq.bh,r.key,r.val⟩
def fo(g:bS)(cs:List Cell)(r:aB)(x:Node):List Cell×List aB×Bool:=
 if et g&&eL r then
  if !(dy x r.key r.val).2.2&&x.kind != 8 then (cs,[],true)
  else if !(c5 x.kind cs ⟨r.op,r.bq.bh,r.key,r.val⟩).2 then ((c5 x.kind cs ⟨r.op,r.bq.bh,r.key,r.val⟩).1,[],true)
  else if x.kind=7 then
   ((c5 x.kind cs ⟨r.op,r.bq.bh,r.key,r.val⟩).1,(bif (gJ r.bq).2 then fv x (gJ r.bq).1 (dy x r.key r.val).1 (dy x r.key r.val).2.1 else []),true)
  else ((c5 x.kind cs ⟨r.op,r.bq.bh,r.key,r.val⟩).1,fv x r.bq (dy x r.key r.val).1 (dy x r.key r.val).2.1,true)
 else (cs,[],false)
theorem Eo(x:Node)(s:hG)(key val:Int){i:Nat}{k:Int}(h:x.outs[i]?=some k):(((x.outs.take (i+1)).map fun k=>(⟨k,s,key,val⟩:aB)).map aB.e)=(((x.outs.take i).map fun k=>(⟨k,s,key,val⟩:aB)).map aB.e)++[(⟨k,s,key,val⟩:aB).e]:=by
 simp[r',h]
theorem Ul(x:Node)(aa:x.outs.length<=8388608)(s:hG)(key val:Int)(k7:List (List D)):c' prog (aq f176 0) (xh x.kind x.a x.b (x.outs.map bb) key val k7 s.bh s.di 0 []) (.exit 0) (uZ k7 ((fv x s key val).map aB.e)):=by
 have l:=e6 (P:=prog) (c:=(aq f176 0)) (cC 0) x.outs.length (fun i:Nat=>xh x.kind x.a x.b (x.outs.map bb) key val k7 s.bh s.di i (((x.outs.take i).map fun k=>(⟨k,s,key,val⟩:aB)).map aB.e)) (fun i hi=>by
  obtain⟨k,hk⟩:=db hi;rw[Eo x s key val hk];exact ahC ⟨bV hi,bk,bm hi,bl bb hk,by simp;omega,by simp;omega,dU (aB.flat ⟨k,s,key,val⟩),c3 hi aa,ad⟩) (ahD ⟨dk,ad⟩)
 rw[lh]at l;exact l
theorem Um(x:Node)(aa:x.outs.length<=8388608)(s:hG)(key val:Int)(k7:List (List D)):c' prog (aq f176 0) (xi s.bh s.di x.kind x.a x.b (x.outs.map bb) key val k7 0 []) (.exit 0) (uZ k7 ((fv x s key val).map aB.e)):=by
 have l:=e6 (P:=prog) (c:=(aq f176 0)) (cC 0) x.outs.length (fun i:Nat=>xi s.bh s.di x.kind x.a x.b (x.outs.map bb) key val k7 i (((x.outs.take i).map fun k=>(⟨k,s,key,val⟩:aB)).map aB.e)) (fun i hi=>by
  obtain⟨k,hk⟩:=db hi;rw[Eo x s key val hk];exact ahF ⟨bV hi,bk,bm hi,bl bb hk,by simp;omega,by simp;omega,dU (aB.flat ⟨k,s,key,val⟩),c3 hi aa,ad⟩) (ahG ⟨dk,ad⟩)
 rw[lh]at l;exact l
theorem Un(x:Node)(aa:x.outs.length<=8388608)(s:hG)(key val:Int)(k7:List (List D)):c' prog (aq f176 0) (xj k7 x.kind x.a x.b (x.outs.map bb) key val s.bh s.di 0 []) (.exit 0) (u0 k7 ((fv x s key val).map aB.e)):=by
 have l:=e6 (P:=prog) (c:=(aq f176 0)) (cC 0) x.outs.length (fun i:Nat=>xj k7 x.kind x.a x.b (x.outs.map bb) key val s.bh s.di i (((x.outs.take i).map fun k=>(⟨k,s,key,val⟩:aB)).map aB.e)) (fun i hi=>by
  obtain⟨k,hk⟩:=db hi;rw[Eo x s key val hk];exact ahJ ⟨bV hi,bk,bm hi,bl bb hk,by simp;omega,by simp;omega,dU (aB.flat ⟨k,s,key,val⟩),c3 hi aa,ad⟩) (ahK ⟨dk,ad⟩)
 rw[lh]at l;exact l
theorem Uo(x:Node)(aa:x.outs.length<=8388608)(s:hG)(key val:Int)(k7:List (List D)):c' prog (aq f176 0) (xk k7 s.bh s.di x.kind x.a x.b (x.outs.map bb) key val 0 []) (.exit 0) (u0 k7 ((fv x s key val).map aB.e)):=by
 have l:=e6 (P:=prog) (c:=(aq f176 0)) (cC 0) x.outs.length (fun i:Nat=>xk k7 s.bh s.di x.kind x.a x.b (x.outs.map bb) key val i (((x.outs.take i).map fun k=>(⟨k,s,key,val⟩:aB)).map aB.e)) (fun i hi=>by
  obtain⟨k,hk⟩:=db hi;rw[Eo x s key val hk];exact ahM ⟨bV hi,bk,bm hi,bl bb hk,by simp;omega,by simp;omega,dU (aB.flat ⟨k,s,key,val⟩),c3 hi aa,ad⟩) (ahN ⟨dk,ad⟩)
 rw[lh]at l;exact l
theorem ag8(g:bS)(cs:List Cell)(r:aB)(x:Node)(av:g.sz<=8388608)(ag:cs.length<=8388608)(aR:gj g r.op=some x):aw 176 [.agg g.e,.one (.J 4 (cs.map Cell.e)),.agg r.e] [.one (.J 4 ((fo g cs r x).1.map Cell.e)),.one (.J 5 ((fo g cs r x).2.1.map aB.e)),.one (B (fo g cs r x).2.2)]:=by
 have aa:=bS.D9 av (T9 aR);obtain⟨nE,rk,_,_⟩:=Lj aR;have ef:g.nodes[r.op.toNat]?=some x:=by have:=aR;unfold gj at this;rwa[bi nE]at this
 have c1:=Em g r.op (x,true) (by unfold uX;rw[aR]) av;have c2:=ze g av;rcases dp (et g) with ax | ax
 ·skip
  have eG:=tf r;rcases dp (eL r) with a7 | a7
  ·skip
   have kF:=afX x r.key r.val aa;rcases dp ((dy x r.key r.val).2.2) with b6 | b6
   ·skip
    have sm:=Uj x.kind;rcases dp (ii x.kind) with eF | eF
    ·skip
     have x5:=Uk x.kind cs (⟨r.op,r.bq.bh,r.key,r.val⟩:Cell) (by omega);rcases dp ((c5 x.kind cs (⟨r.op,r.bq.bh,r.key,r.val⟩:Cell)).2) with h7 | h7
     ·skip
      rcases dp (x.kind==7) with kG | kG
      ·skip
       have o2:=zd r.bq;rcases dp ((gJ r.bq).2) with lo | lo
       ·skip
        
        rw[show fo g cs r x=(((c5 x.kind cs (⟨r.op,r.bq.bh,r.key,r.val⟩:Cell)).1),(fv x ((gJ r.bq).1) ((dy x r.key r.val).1) ((dy x r.key r.val).2.1)),true) from by grind[fo,ii,c5]];exact ag1 ⟨(by first | omega | (simp only[bA,ch];omega) | exact cM _ Cell.flat _ | grind[aG]),(by first | omega | (simp only[bA,ch];omega) | exact cM _ Cell.flat _ | grind[aG]),(by first | omega | (simp only[bA,ch];omega) | exact cM _ Cell.flat _ | grind[aG]),c1,rfl,c2,(by rw[ax];rfl),eG,(by rw[a7];rfl),kF,(by rw[b6];rfl),sm,eF,x5,(by rw[h7];rfl),kG,o2,(by rw[lo];rfl),(Ul x aa ((gJ r.bq).1) ((dy x r.key r.val).1) ((dy x r.key r.val).2.1) _),ad⟩
       skip
       rw[show fo g cs r x=(((c5 x.kind cs (⟨r.op,r.bq.bh,r.key,r.val⟩:Cell)).1),([]:List aB),true) from by grind[fo,ii,c5]];exact ahQ ⟨(by first | omega | (simp only[bA,ch];omega) | exact cM _ Cell.flat _ | grind[aG]),(by first | omega | (simp only[bA,ch];omega) | exact cM _ Cell.flat _ | grind[aG]),(by first | omega | (simp only[bA,ch];omega) | exact cM _ Cell.flat _ | grind[aG]),c1,rfl,c2,(by rw[ax];rfl),eG,(by rw[a7];rfl),kF,(by rw[b6];rfl),sm,eF,x5,(by rw[h7];rfl),kG,o2,(by rw[lo];rfl),ad⟩
      skip
      
      rw[show fo g cs r x=(((c5 x.kind cs (⟨r.op,r.bq.bh,r.key,r.val⟩:Cell)).1),(fv x r.bq ((dy x r.key r.val).1) ((dy x r.key r.val).2.1)),true) from by grind[fo,ii,c5]];exact ag2 ⟨(by first | omega | (simp only[bA,ch];omega) | exact cM _ Cell.flat _ | grind[aG]),(by first | omega | (simp only[bA,ch];omega) | exact cM _ Cell.flat _ | grind[aG]),(by first | omega | (simp only[bA,ch];omega) | exact cM _ Cell.flat _ | grind[aG]),c1,rfl,c2,(by rw[ax];rfl),eG,(by rw[a7];rfl),kF,(by rw[b6];rfl),sm,eF,x5,(by rw[h7];rfl),kG,(Um x aa r.bq ((dy x r.key r.val).1) ((dy x r.key r.val).2.1) _),ad⟩
     skip
     rw[show fo g cs r x=(((c5 x.kind cs (⟨r.op,r.bq.bh,r.key,r.val⟩:Cell)).1),([]:List aB),true) from by grind[fo,ii,c5]];exact ahP ⟨(by first | omega | (simp only[bA,ch];omega) | exact cM _ Cell.flat _ | grind[aG]),(by first | omega | (simp only[bA,ch];omega) | exact cM _ Cell.flat _ | grind[aG]),(by first | omega | (simp only[bA,ch];omega) | exact cM _ Cell.flat _ | grind[aG]),c1,rfl,c2,(by rw[ax];rfl),eG,(by rw[a7];rfl),kF,(by rw[b6];rfl),sm,eF,x5,(by rw[h7];rfl),ad⟩
    skip
    rcases dp (x.kind==7) with lp | lp
    ·skip
     have Dk:=zd r.bq;rcases dp ((gJ r.bq).2) with q' | q'
     ·skip
      
      rw[show fo g cs r x=(cs,(fv x ((gJ r.bq).1) ((dy x r.key r.val).1) ((dy x r.key r.val).2.1)),true) from by grind[fo,ii,c5]];exact ag4 ⟨(by first | omega | (simp only[bA,ch];omega) | exact cM _ Cell.flat _ | grind[aG]),(by first | omega | (simp only[bA,ch];omega) | exact cM _ Cell.flat _ | grind[aG]),(by first | omega | (simp only[bA,ch];omega) | exact cM _ Cell.flat _ | grind[aG]),c1,rfl,c2,(by rw[ax];rfl),eG,(by rw[a7];rfl),kF,(by rw[b6];rfl),sm,eF,lp,Dk,(by rw[q'];rfl),(Un x aa ((gJ r.bq).1) ((dy x r.key r.val).1) ((dy x r.key r.val).2.1) _),ad⟩
     skip
     rw[show fo g cs r x=(cs,([]:List aB),true) from by grind[fo,ii,c5]];exact ag3 ⟨(by first | omega | (simp only[bA,ch];omega) | exact cM _ Cell.flat _ | grind[aG]),(by first | omega | (simp only[bA,ch];omega) | exact cM _ Cell.flat _ | grind[aG]),(by first | omega | (simp only[bA,ch];omega) | exact cM _ Cell.flat _ | grind[aG]),c1,rfl,c2,(by rw[ax];rfl),eG,(by rw[a7];rfl),kF,(by rw[b6];rfl),sm,eF,lp,Dk,(by rw[q'];rfl),ad⟩
    skip
    
    rw[show fo g cs r x=(cs,(fv x r.bq ((dy x r.key r.val).1) ((dy x r.key r.val).2.1)),true) from by grind[fo,ii,c5]];exact ag5 ⟨(by first | omega | (simp only[bA,ch];omega) | exact cM _ Cell.flat _ | grind[aG]),(by first | omega | (simp only[bA,ch];omega) | exact cM _ Cell.flat _ | grind[aG]),(by first | omega | (simp only[bA,ch];omega) | exact cM _ Cell.flat _ | grind[aG]),c1,rfl,c2,(by rw[ax];rfl),eG,(by rw[a7];rfl),kF,(by rw[b6];rfl),sm,eF,lp,(Uo x aa r.bq ((dy x r.key r.val).1) ((dy x r.key r.val).2.1) _),ad⟩
   skip
   rcases dp (x.kind != 8) with hd | hd
   ·skip
    rw[show fo g cs r x=(cs,([]:List aB),true) from by grind[fo,ii,c5]];exact ahz ⟨(by first | omega | (simp only[bA,ch];omega) | exact cM _ Cell.flat _ | grind[aG]),(by first | omega | (simp only[bA,ch];omega) | exact cM _ Cell.flat _ | grind[aG]),(by first | omega | (simp only[bA,ch];omega) | exact cM _ Cell.flat _ | grind[aG]),c1,rfl,c2,(by rw[ax];rfl),eG,(by rw[a7];rfl),kF,(by rw[b6];rfl),hd,ad⟩
   skip
   have j3:=Uj x.kind;rcases dp (ii x.kind) with fj | fj
   ·skip
    have nj:=Uk x.kind cs (⟨r.op,r.bq.bh,r.key,r.val⟩:Cell) (by omega);rcases dp ((c5 x.kind cs (⟨r.op,r.bq.bh,r.key,r.val⟩:Cell)).2) with lq | lq
    ·skip
     rcases dp (x.kind==7) with j7 | j7
     ·skip
      have Po:=zd r.bq;rcases dp ((gJ r.bq).2) with p1 | p1
      ·skip
       
       rw[show fo g cs r x=(((c5 x.kind cs (⟨r.op,r.bq.bh,r.key,r.val⟩:Cell)).1),(fv x ((gJ r.bq).1) ((dy x r.key r.val).1) ((dy x r.key r.val).2.1)),true) from by grind[fo,ii,c5]];exact ahE ⟨(by first | omega | (simp only[bA,ch];omega) | exact cM _ Cell.flat _ | grind[aG]),(by first | omega | (simp only[bA,ch];omega) | exact cM _ Cell.flat _ | grind[aG]),(by first | omega | (simp only[bA,ch];omega) | exact cM _ Cell.flat _ | grind[aG]),c1,rfl,c2,(by rw[ax];rfl),eG,(by rw[a7];rfl),kF,(by rw[b6];rfl),hd,j3,fj,nj,(by rw[lq];rfl),j7,Po,(by rw[p1];rfl),(Ul x aa ((gJ r.bq).1) ((dy x r.key r.val).1) ((dy x r.key r.val).2.1) _),ad⟩
      skip
      rw[show fo g cs r x=(((c5 x.kind cs (⟨r.op,r.bq.bh,r.key,r.val⟩:Cell)).1),([]:List aB),true) from by grind[fo,ii,c5]];exact ahB ⟨(by first | omega | (simp only[bA,ch];omega) | exact cM _ Cell.flat _ | grind[aG]),(by first | omega | (simp only[bA,ch];omega) | exact cM _ Cell.flat _ | grind[aG]),(by first | omega | (simp only[bA,ch];omega) | exact cM _ Cell.flat _ | grind[aG]),c1,rfl,c2,(by rw[ax];rfl),eG,(by rw[a7];rfl),kF,(by rw[b6];rfl),hd,j3,fj,nj,(by rw[lq];rfl),j7,Po,(by rw[p1];rfl),ad⟩
     skip
     
     rw[show fo g cs r x=(((c5 x.kind cs (⟨r.op,r.bq.bh,r.key,r.val⟩:Cell)).1),(fv x r.bq ((dy x r.key r.val).1) ((dy x r.key r.val).2.1)),true) from by grind[fo,ii,c5]];exact ahH ⟨(by first | omega | (simp only[bA,ch];omega) | exact cM _ Cell.flat _ | grind[aG]),(by first | omega | (simp only[bA,ch];omega) | exact cM _ Cell.flat _ | grind[aG]),(by first | omega | (simp only[bA,ch];omega) | exact cM _ Cell.flat _ | grind[aG]),c1,rfl,c2,(by rw[ax];rfl),eG,(by rw[a7];rfl),kF,(by rw[b6];rfl),hd,j3,fj,nj,(by rw[lq];rfl),j7,(Um x aa r.bq ((dy x r.key r.val).1) ((dy x r.key r.val).2.1) _),ad⟩
    skip
    rw[show fo g cs r x=(((c5 x.kind cs (⟨r.op,r.bq.bh,r.key,r.val⟩:Cell)).1),([]:List aB),true) from by grind[fo,ii,c5]];exact ahA ⟨(by first | omega | (simp only[bA,ch];omega) | exact cM _ Cell.flat _ | grind[aG]),(by first | omega | (simp only[bA,ch];omega) | exact cM _ Cell.flat _ | grind[aG]),(by first | omega | (simp only[bA,ch];omega) | exact cM _ Cell.flat _ | grind[aG]),c1,rfl,c2,(by rw[ax];rfl),eG,(by rw[a7];rfl),kF,(by rw[b6];rfl),hd,j3,fj,nj,(by rw[lq];rfl),ad⟩
   skip
   rcases dp (x.kind==7) with p2 | p2
   ·skip
    have Pp:=zd r.bq;rcases dp ((gJ r.bq).2) with oc | oc
    ·skip
     
     rw[show fo g cs r x=(cs,(fv x ((gJ r.bq).1) ((dy x r.key r.val).1) ((dy x r.key r.val).2.1)),true) from by grind[fo,ii,c5]];exact ahL ⟨(by first | omega | (simp only[bA,ch];omega) | exact cM _ Cell.flat _ | grind[aG]),(by first | omega | (simp only[bA,ch];omega) | exact cM _ Cell.flat _ | grind[aG]),(by first | omega | (simp only[bA,ch];omega) | exact cM _ Cell.flat _ | grind[aG]),c1,rfl,c2,(by rw[ax];rfl),eG,(by rw[a7];rfl),kF,(by rw[b6];rfl),hd,j3,fj,p2,Pp,(by rw[oc];rfl),(Un x aa ((gJ r.bq).1) ((dy x r.key r.val).1) ((dy x r.key r.val).2.1) _),ad⟩
    skip
    rw[show fo g cs r x=(cs,([]:List aB),true) from by grind[fo,ii,c5]];exact ahI ⟨(by first | omega | (simp only[bA,ch];omega) | exact cM _ Cell.flat _ | grind[aG]),(by first | omega | (simp only[bA,ch];omega) | exact cM _ Cell.flat _ | grind[aG]),(by first | omega | (simp only[bA,ch];omega) | exact cM _ Cell.flat _ | grind[aG]),c1,rfl,c2,(by rw[ax];rfl),eG,(by rw[a7];rfl),kF,(by rw[b6];rfl),hd,j3,fj,p2,Pp,(by rw[oc];rfl),ad⟩
   skip
   
   rw[show fo g cs r x=(cs,(fv x r.bq ((dy x r.key r.val).1) ((dy x r.key r.val).2.1)),true) from by grind[fo,ii,c5]];exact ahO ⟨(by first | omega | (simp only[bA,ch];omega) | exact cM _ Cell.flat _ | grind[aG]),(by first | omega | (simp only[bA,ch];omega) | exact cM _ Cell.flat _ | grind[aG]),(by first | omega | (simp only[bA,ch];omega) | exact cM _ Cell.flat _ | grind[aG]),c1,rfl,c2,(by rw[ax];rfl),eG,(by rw[a7];rfl),kF,(by rw[b6];rfl),hd,j3,fj,p2,(Uo x aa r.bq ((dy x r.key r.val).1) ((dy x r.key r.val).2.1) _),ad⟩
  skip
  rw[show fo g cs r x=(cs,([]:List aB),false) from by grind[fo,ii,c5]];exact ahy ⟨(by first | omega | (simp only[bA,ch];omega) | exact cM _ Cell.flat _ | grind[aG]),(by first | omega | (simp only[bA,ch];omega) | exact cM _ Cell.flat _ | grind[aG]),(by first | omega | (simp only[bA,ch];omega) | exact cM _ Cell.flat _ | grind[aG]),c1,rfl,c2,(by rw[ax];rfl),eG,(by rw[a7];rfl),ad⟩
 skip
 rw[show fo g cs r x=(cs,([]:List aB),false) from by grind[fo,ii,c5]];exact ahx ⟨(by first | omega | (simp only[bA,ch];omega) | exact cM _ Cell.flat _ | grind[aG]),(by first | omega | (simp only[bA,ch];omega) | exact cM _ Cell.flat _ | grind[aG]),(by first | omega | (simp only[bA,ch];omega) | exact cM _ Cell.flat _ | grind[aG]),c1,rfl,c2,(by rw[ax];rfl),ad⟩
