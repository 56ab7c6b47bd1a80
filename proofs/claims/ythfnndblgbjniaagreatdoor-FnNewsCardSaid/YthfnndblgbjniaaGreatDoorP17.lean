import Derived.Test.YthfnndblgbjniaaGreatDoorP15
import Derived.Test.YthfnndblgbjniaaGreatDoorGS
set_option linter.unusedVariables false
set_option linter.unusedSimpArgs false
namespace Go.Proofs.YthfnndblgbjniaaGreatDoor
open Go.Sx Go.RowKit Go.Proofs.Tryz
def hr(k:Int):Bool:=k==5||k==6||k==8
def nW(xs:List Cell)(x:Cell):List Cell×Bool:=
 if (sQ xs x.op x.bh x.key).2&&decide ((sQ xs x.op x.bh x.key).1<=x.val) then (xs,false) else (mN (xs.filter fun a=>!fZ x a) x,true)
def dN(kind:Int)(xs:List Cell)(x:Cell):List Cell×Bool:=
 if kind=6 then (if ug xs x then (xs,false) else (mN xs x,true))
 else if kind=5\/kind=8 then nW xs x
 else (xs,true)
theorem PK(k:Int):ax 196 [.one (I k)] [.one (B (hr k))]:=by
 rcases c3 (k==5) with U | U
 ·skip
  rw[show hr k=true from by grind[hr]];exact amh ⟨U,ad⟩
 skip
 rcases c3 (k==6) with aa | aa
 ·skip
  rw[show hr k=true from by grind[hr]];exact ami ⟨U,aa,ad⟩
 skip
 rw[show hr k=(k==8) from by grind[hr]];exact amj ⟨U,aa,ad⟩
theorem aaK(xs acc:List Cell)(x:Cell)(au:xs.length<=8388608)(i:Nat)(ap:acc.length<=i)(a:Cell)(ai:xs[i]?=some a):fJ prog (aq f197 0) (kk (xs.map Cell.e) x.op x.bh x.key x.val i (acc.map Cell.e)) .normal (kk (xs.map Cell.e) x.op x.bh x.key x.val ((i+1:Nat):Int) ((acc++(bif fZ x a then [] else [a])).map Cell.e)):=by
 have bm:=aZ ai;have dI:xs[(i:Int).toNat]?=some a:=by grind
 have eb:decide ((i:Int)<(↑(xs.map Cell.e).length:Int))=true:=b3 bm;rcases c3 (a.op != x.op) with U | U
 ·skip
  have aj:fZ x a=false:=by grind[fZ]
  rw[aj];rw[show (acc++(bif false then [] else [a])).map Cell.e=acc.map Cell.e++[a.e] from by simp];exact amn ⟨eb,(by grind),(by grind),(bK Cell.e dI),U,(by grind),(by grind),(bK Cell.e dI),(by grind),(by grind),(by grind[cr,gP,dM,fG]),(by first | omega | (simp only[cr,gP,dM];omega) | exact fG a.flat | (exact⟨by omega,by omega⟩)),ad⟩
 skip
 rcases c3 (a.bh != x.bh) with aa | aa
 ·skip
  have aj:fZ x a=false:=by grind[fZ]
  rw[aj];rw[show (acc++(bif false then [] else [a])).map Cell.e=acc.map Cell.e++[a.e] from by simp];exact anR ⟨eb,(by grind),(by grind),(bK Cell.e dI),U,(by grind),(by grind),(bK Cell.e dI),aa,(by grind),(by grind),(bK Cell.e dI),(by grind),(by grind),(by grind[cr,gP,dM,fG]),(by first | omega | (simp only[cr,gP,dM];omega) | exact fG a.flat | (exact⟨by omega,by omega⟩)),ad⟩
 skip
 rcases c3 (a.key != x.key) with aA | aA
 ·skip
  have aj:fZ x a=false:=by grind[fZ]
  rw[aj];rw[show (acc++(bif false then [] else [a])).map Cell.e=acc.map Cell.e++[a.e] from by simp];exact anS ⟨eb,(by grind),(by grind),(bK Cell.e dI),U,(by grind),(by grind),(bK Cell.e dI),aa,(by grind),(by grind),(bK Cell.e dI),aA,(by grind),(by grind),(bK Cell.e dI),(by grind),(by grind),(by grind[cr,gP,dM,fG]),(by first | omega | (simp only[cr,gP,dM];omega) | exact fG a.flat | (exact⟨by omega,by omega⟩)),ad⟩
 skip
 have aj:fZ x a=true:=by grind[fZ]
 rw[aj];rw[show (acc++(bif true then [] else [a])).map Cell.e=acc.map Cell.e from by simp];exact anT ⟨eb,(by grind),(by grind),(bK Cell.e dI),U,(by grind),(by grind),(bK Cell.e dI),aa,(by grind),(by grind),(bK Cell.e dI),aA,(by first | omega | (simp only[cr,gP,dM];omega) | exact fG a.flat | (exact⟨by omega,by omega⟩)),ad⟩
theorem aaL(p:Cell->Bool){xs:List Cell}{i:Nat}{a:Cell}(h:xs[i]?=some a):(xs.take (i+1)).filter (fun b=>!p b)=(xs.take i).filter (fun b=>!p b)++(bif p a then [] else [a]):=by
 rw[yn _ h];grind
theorem B4(xs:List Cell)(x:Cell)(au:xs.length<=8388608):c0 prog (aq f197 0) (kk (xs.map Cell.e) x.op x.bh x.key x.val 0 []) (.exit 1) (wI x.op x.bh x.key x.val ((xs.filter fun a=>!fZ x a).map Cell.e)):=by
 have l:=eu (P:=prog) (c:=(aq f197 0)) (cI 1) xs.length (fun i:Nat=>kk (xs.map Cell.e) x.op x.bh x.key x.val i (((xs.take i).filter fun a=>!fZ x a).map Cell.e)) (fun i hi=>by
  obtain⟨a,ai⟩:=cS hi;rw[aaL (fZ x) ai];grind[aaK,Ci]) (anU ⟨dv,ad⟩)
 grind
theorem PL(kind:Int)(xs:List Cell)(x:Cell)(au:xs.length<=8388608):ax 197 [.one (I kind),.one (.J 4 (xs.map Cell.e)),.agg x.e] [.one (.J 4 (((dN kind xs x).1).map Cell.e)),.one (B ((dN kind xs x).2))]:=by
 have b7:=rO (fun a=>!fZ x a) xs;rcases c3 (kind==6) with U | U
 ·skip
  have cw:=PT xs x (by omega);rcases c3 (ug xs x) with aA | aA
  ·skip
   rw[show dN kind xs x=(xs,false) from by grind[dN,nW]];exact amk ⟨(by grind),(by grind),(by grind[cr,dM,dD,Cell.flat,aK]),U,cw,aA,ad⟩
  skip
  have dU:=zb xs x (by omega);rw[show dN kind xs x=((mN xs x),true) from by grind[dN,nW]];exact aml ⟨(by grind),(by grind),(by grind[cr,dM,dD,Cell.flat,aK]),U,cw,aA,dU,ad⟩
 skip
 rcases c3 (kind==5) with a8 | a8
 ·skip
  have jr:=P5 xs x.op x.bh x.key (by omega);rcases c3 ((sQ xs x.op x.bh x.key).2) with b9 | b9
  ·skip
   rcases c3 (decide (((sQ xs x.op x.bh x.key).1)<=x.val)) with da | da
   ·skip
    rw[show dN kind xs x=(xs,false) from by grind[dN,nW]];exact amm ⟨(by grind),(by grind),(by grind[cr,dM,dD,Cell.flat,aK]),U,a8,a8,jr,b9,da,ad⟩
   skip
   
   have U9:=zb (xs.filter fun a=>!fZ x a) x (by omega);rw[show dN kind xs x=((mN (xs.filter fun a=>!fZ x a) x),true) from by grind[dN,nW]];exact anV ⟨(by grind),(by grind),(by grind[cr,dM,dD,Cell.flat,aK]),U,a8,a8,jr,b9,da,(B4 xs x au),U9,ad⟩
  skip
  
  have vr:=zb (xs.filter fun a=>!fZ x a) x (by omega);rw[show dN kind xs x=((mN (xs.filter fun a=>!fZ x a) x),true) from by grind[dN,nW]];exact anW ⟨(by grind),(by grind),(by grind[cr,dM,dD,Cell.flat,aK]),U,a8,a8,jr,b9,(B4 xs x au),vr,ad⟩
 skip
 rcases c3 (kind==8) with hg | hg
 ·skip
  have mh:=P5 xs x.op x.bh x.key (by omega);rcases c3 ((sQ xs x.op x.bh x.key).2) with r9 | r9
  ·skip
   rcases c3 (decide (((sQ xs x.op x.bh x.key).1)<=x.val)) with ka | ka
   ·skip
    rw[show dN kind xs x=(xs,false) from by grind[dN,nW]];exact anX ⟨(by grind),(by grind),(by grind[cr,dM,dD,Cell.flat,aK]),U,a8,hg,mh,r9,ka,ad⟩
   skip
   
   have U7:=zb (xs.filter fun a=>!fZ x a) x (by omega);rw[show dN kind xs x=((mN (xs.filter fun a=>!fZ x a) x),true) from by grind[dN,nW]];exact anY ⟨(by grind),(by grind),(by grind[cr,dM,dD,Cell.flat,aK]),U,a8,hg,mh,r9,ka,(B4 xs x au),U7,ad⟩
  skip
  
  have AG:=zb (xs.filter fun a=>!fZ x a) x (by omega);rw[show dN kind xs x=((mN (xs.filter fun a=>!fZ x a) x),true) from by grind[dN,nW]];exact anZ ⟨(by grind),(by grind),(by grind[cr,dM,dD,Cell.flat,aK]),U,a8,hg,mh,r9,(B4 xs x au),AG,ad⟩
 skip
 rw[show dN kind xs x=(xs,true) from by grind[dN,nW]];exact an0 ⟨(by grind),(by grind),(by grind[cr,dM,dD,Cell.flat,aK]),U,a8,hg,ad⟩
def jF(x:Node)(s:hd)(key val:Int):List aH:=x.outs.map fun k=>⟨k,s,key,val⟩
def cellOf(r:aH):Cell:=⟨r.op,r.bJ.bh,r.key,r.val⟩
def eT(g:b1)(cs:List Cell)(r:aH)(x:Node):List Cell×List aH×Bool:=
 if ei g&&e6 r then
  if !(dJ x r.key r.val).2.2&&x.kind != 8 then (cs,[],true)
  else if !(dN x.kind cs ⟨r.op,r.bJ.bh,r.key,r.val⟩).2 then ((dN x.kind cs ⟨r.op,r.bJ.bh,r.key,r.val⟩).1,[],true)
  else if x.kind=7 then
   ((dN x.kind cs ⟨r.op,r.bJ.bh,r.key,r.val⟩).1,(bif (gL r.bJ).2 then jF x (gL r.bJ).1 (dJ x r.key r.val).1 (dJ x r.key r.val).2.1 else []),true)
  else ((dN x.kind cs ⟨r.op,r.bJ.bh,r.key,r.val⟩).1,jF x r.bJ (dJ x r.key r.val).1 (dJ x r.key r.val).2.1,true)
 else (cs,[],false)
theorem CU(x:Node)(s:hd)(key val:Int){i:Nat}{k:Int}(h:x.outs[i]?=some k):(((x.outs.take (i+1)).map fun k=>(⟨k,s,key,val⟩:aH)).map aH.e)=(((x.outs.take i).map fun k=>(⟨k,s,key,val⟩:aH)).map aH.e)++[(⟨k,s,key,val⟩:aH).e]:=by
 simp[rS,h]
theorem PM(x:Node)(ao:x.outs.length<=8388608)(s:hd)(key val:Int)(lc:List (List D)):c0 prog (aq f156 0) (ur x.kind x.a x.b (x.outs.map ba) key val lc s.bh s.eo 0 []) (.exit 0) (sX lc ((jF x s key val).map aH.e)):=by
 have l:=eu (P:=prog) (c:=(aq f156 0)) (cI 0) x.outs.length (fun i:Nat=>ur x.kind x.a x.b (x.outs.map ba) key val lc s.bh s.eo i (((x.outs.take i).map fun k=>(⟨k,s,key,val⟩:aH)).map aH.e)) (fun i hi=>by
  obtain⟨k,bc⟩:=cS hi;rw[CU x s key val bc];exact abh ⟨b3 hi,bn,bt hi,bp ba bc,by simp;omega,by simp;omega,fG (aH.flat ⟨k,s,key,val⟩),cT hi ao,ad⟩) (abi ⟨dv,ad⟩)
 rw[jH]at l;exact l
theorem PN(x:Node)(ao:x.outs.length<=8388608)(s:hd)(key val:Int)(lc:List (List D)):c0 prog (aq f156 0) (uu s.bh s.eo x.kind x.a x.b (x.outs.map ba) key val lc 0 []) (.exit 0) (sX lc ((jF x s key val).map aH.e)):=by
 have l:=eu (P:=prog) (c:=(aq f156 0)) (cI 0) x.outs.length (fun i:Nat=>uu s.bh s.eo x.kind x.a x.b (x.outs.map ba) key val lc i (((x.outs.take i).map fun k=>(⟨k,s,key,val⟩:aH)).map aH.e)) (fun i hi=>by
  obtain⟨k,bc⟩:=cS hi;rw[CU x s key val bc];exact abk ⟨b3 hi,bn,bt hi,bp ba bc,by simp;omega,by simp;omega,fG (aH.flat ⟨k,s,key,val⟩),cT hi ao,ad⟩) (abl ⟨dv,ad⟩)
 rw[jH]at l;exact l
theorem Rd(x:Node)(ao:x.outs.length<=8388608)(s:hd)(key val:Int)(lc:List (List D)):c0 prog (aq f156 0) (uv lc x.kind x.a x.b (x.outs.map ba) key val s.bh s.eo 0 []) (.exit 0) (sY lc ((jF x s key val).map aH.e)):=by
 have l:=eu (P:=prog) (c:=(aq f156 0)) (cI 0) x.outs.length (fun i:Nat=>uv lc x.kind x.a x.b (x.outs.map ba) key val s.bh s.eo i (((x.outs.take i).map fun k=>(⟨k,s,key,val⟩:aH)).map aH.e)) (fun i hi=>by
  obtain⟨k,bc⟩:=cS hi;rw[CU x s key val bc];exact abo ⟨b3 hi,bn,bt hi,bp ba bc,by simp;omega,by simp;omega,fG (aH.flat ⟨k,s,key,val⟩),cT hi ao,ad⟩) (abp ⟨dv,ad⟩)
 rw[jH]at l;exact l
theorem Re(x:Node)(ao:x.outs.length<=8388608)(s:hd)(key val:Int)(lc:List (List D)):c0 prog (aq f156 0) (uw lc s.bh s.eo x.kind x.a x.b (x.outs.map ba) key val 0 []) (.exit 0) (sY lc ((jF x s key val).map aH.e)):=by
 have l:=eu (P:=prog) (c:=(aq f156 0)) (cI 0) x.outs.length (fun i:Nat=>uw lc s.bh s.eo x.kind x.a x.b (x.outs.map ba) key val i (((x.outs.take i).map fun k=>(⟨k,s,key,val⟩:aH)).map aH.e)) (fun i hi=>by
  obtain⟨k,bc⟩:=cS hi;rw[CU x s key val bc];exact abr ⟨b3 hi,bn,bt hi,bp ba bc,by simp;omega,by simp;omega,fG (aH.flat ⟨k,s,key,val⟩),cT hi ao,ad⟩) (aaB ⟨dv,ad⟩)
 rw[jH]at l;exact l
theorem aaM(g:b1)(cs:List Cell)(r:aH)(x:Node)(ay:g.sz<=8388608)(au:cs.length<=8388608)(a7:gK g r.op=some x):ax 156 [.agg g.e,.one (.J 4 (cs.map Cell.e)),.agg r.e] [.one (.J 4 ((eT g cs r x).1.map Cell.e)),.one (.J 5 ((eT g cs r x).2.1.map aH.e)),.one (B (eT g cs r x).2.2)]:=by
 have ao:=b1.Bw ay (PW a7);obtain⟨mq,sh,_,_⟩:=Jx a7;have dI:g.nodes[r.op.toNat]?=some x:=by simp_all[gK,bU]
 have bX:=Cn g r.op (x,true) (by grind[sO]) ay;have cw:=wL g ay;rcases c3 (ei g) with aA | aA
 ·skip
  have dU:=rr r;rcases c3 (e6 r) with a8 | a8
  ·skip
   have jr:=X8 x r.key r.val ao;rcases c3 ((dJ x r.key r.val).2.2) with b9 | b9
   ·skip
    have qx:=PK x.kind;rcases c3 (hr x.kind) with dZ | dZ
    ·skip
     have vr:=PL x.kind cs (⟨r.op,r.bJ.bh,r.key,r.val⟩:Cell) (by omega);rcases c3 ((dN x.kind cs (⟨r.op,r.bJ.bh,r.key,r.val⟩:Cell)).2) with hg | hg
     ·skip
      rcases c3 (x.kind==7) with js | js
      ·skip
       have nc:=wK r.bJ;rcases c3 ((gL r.bJ).2) with ka | ka
       ·skip
        
        rw[show eT g cs r x=(((dN x.kind cs (⟨r.op,r.bJ.bh,r.key,r.val⟩:Cell)).1),(jF x ((gL r.bJ).1) ((dJ x r.key r.val).1) ((dJ x r.key r.val).2.1)),true) from by grind[eT,hr,dN]];exact aaF ⟨(by grind),(by grind),(by grind[cr,dM,dD,Cell.flat,aK]),bX,rfl,cw,(by rw[aA];rfl),dU,(by rw[a8];rfl),jr,(by rw[b9];rfl),qx,dZ,vr,(by rw[hg];rfl),js,nc,(by rw[ka];rfl),(PM x ao ((gL r.bJ).1) ((dJ x r.key r.val).1) ((dJ x r.key r.val).2.1) _),ad⟩
       skip
       rw[show eT g cs r x=(((dN x.kind cs (⟨r.op,r.bJ.bh,r.key,r.val⟩:Cell)).1),([]:List aH),true) from by grind[eT,hr,dN]];exact aaE ⟨(by grind),(by grind),(by grind[cr,dM,dD,Cell.flat,aK]),bX,rfl,cw,(by rw[aA];rfl),dU,(by rw[a8];rfl),jr,(by rw[b9];rfl),qx,dZ,vr,(by rw[hg];rfl),js,nc,(by rw[ka];rfl),ad⟩
      skip
      
      rw[show eT g cs r x=(((dN x.kind cs (⟨r.op,r.bJ.bh,r.key,r.val⟩:Cell)).1),(jF x r.bJ ((dJ x r.key r.val).1) ((dJ x r.key r.val).2.1)),true) from by grind[eT,hr,dN]];exact aaG ⟨(by grind),(by grind),(by grind[cr,dM,dD,Cell.flat,aK]),bX,rfl,cw,(by rw[aA];rfl),dU,(by rw[a8];rfl),jr,(by rw[b9];rfl),qx,dZ,vr,(by rw[hg];rfl),js,(PN x ao r.bJ ((dJ x r.key r.val).1) ((dJ x r.key r.val).2.1) _),ad⟩
     skip
     rw[show eT g cs r x=(((dN x.kind cs (⟨r.op,r.bJ.bh,r.key,r.val⟩:Cell)).1),([]:List aH),true) from by grind[eT,hr,dN]];exact aaD ⟨(by grind),(by grind),(by grind[cr,dM,dD,Cell.flat,aK]),bX,rfl,cw,(by rw[aA];rfl),dU,(by rw[a8];rfl),jr,(by rw[b9];rfl),qx,dZ,vr,(by rw[hg];rfl),ad⟩
    skip
    rcases c3 (x.kind==7) with kb | kb
    ·skip
     have AG:=wK r.bJ;rcases c3 ((gL r.bJ).2) with pE | pE
     ·skip
      
      rw[show eT g cs r x=(cs,(jF x ((gL r.bJ).1) ((dJ x r.key r.val).1) ((dJ x r.key r.val).2.1)),true) from by grind[eT,hr,dN]];exact aaI ⟨(by grind),(by grind),(by grind[cr,dM,dD,Cell.flat,aK]),bX,rfl,cw,(by rw[aA];rfl),dU,(by rw[a8];rfl),jr,(by rw[b9];rfl),qx,dZ,kb,AG,(by rw[pE];rfl),(Rd x ao ((gL r.bJ).1) ((dJ x r.key r.val).1) ((dJ x r.key r.val).2.1) _),ad⟩
     skip
     rw[show eT g cs r x=(cs,([]:List aH),true) from by grind[eT,hr,dN]];exact aaH ⟨(by grind),(by grind),(by grind[cr,dM,dD,Cell.flat,aK]),bX,rfl,cw,(by rw[aA];rfl),dU,(by rw[a8];rfl),jr,(by rw[b9];rfl),qx,dZ,kb,AG,(by rw[pE];rfl),ad⟩
    skip
    
    rw[show eT g cs r x=(cs,(jF x r.bJ ((dJ x r.key r.val).1) ((dJ x r.key r.val).2.1)),true) from by grind[eT,hr,dN]];exact aaJ ⟨(by grind),(by grind),(by grind[cr,dM,dD,Cell.flat,aK]),bX,rfl,cw,(by rw[aA];rfl),dU,(by rw[a8];rfl),jr,(by rw[b9];rfl),qx,dZ,kb,(Re x ao r.bJ ((dJ x r.key r.val).1) ((dJ x r.key r.val).2.1) _),ad⟩
   skip
   rcases c3 (x.kind != 8) with gm | gm
   ·skip
    rw[show eT g cs r x=(cs,([]:List aH),true) from by grind[eT,hr,dN]];exact abe ⟨(by grind),(by grind),(by grind[cr,dM,dD,Cell.flat,aK]),bX,rfl,cw,(by rw[aA];rfl),dU,(by rw[a8];rfl),jr,(by rw[b9];rfl),gm,ad⟩
   skip
   have iI:=PK x.kind;rcases c3 (hr x.kind) with eH | eH
   ·skip
    have lB:=PL x.kind cs (⟨r.op,r.bJ.bh,r.key,r.val⟩:Cell) (by omega);rcases c3 ((dN x.kind cs (⟨r.op,r.bJ.bh,r.key,r.val⟩:Cell)).2) with kc | kc
    ·skip
     rcases c3 (x.kind==7) with iJ | iJ
     ·skip
      have LU:=wK r.bJ;rcases c3 ((gL r.bJ).2) with oi | oi
      ·skip
       
       rw[show eT g cs r x=(((dN x.kind cs (⟨r.op,r.bJ.bh,r.key,r.val⟩:Cell)).1),(jF x ((gL r.bJ).1) ((dJ x r.key r.val).1) ((dJ x r.key r.val).2.1)),true) from by grind[eT,hr,dN]];exact abj ⟨(by first | omega | (simp only[cr,dM];omega) | exact dD _ Cell.flat _ | grind[aK]),(by first | omega | (simp only[cr,dM];omega) | exact dD _ Cell.flat _ | grind[aK]),(by first | omega | (simp only[cr,dM];omega) | exact dD _ Cell.flat _ | grind[aK]),bX,rfl,cw,(by rw[aA];rfl),dU,(by rw[a8];rfl),jr,(by rw[b9];rfl),gm,iI,eH,lB,(by rw[kc];rfl),iJ,LU,(by rw[oi];rfl),(PM x ao ((gL r.bJ).1) ((dJ x r.key r.val).1) ((dJ x r.key r.val).2.1) _),ad⟩
      skip
      rw[show eT g cs r x=(((dN x.kind cs (⟨r.op,r.bJ.bh,r.key,r.val⟩:Cell)).1),([]:List aH),true) from by grind[eT,hr,dN]];exact abg ⟨(by first | omega | (simp only[cr,dM];omega) | exact dD _ Cell.flat _ | grind[aK]),(by first | omega | (simp only[cr,dM];omega) | exact dD _ Cell.flat _ | grind[aK]),(by first | omega | (simp only[cr,dM];omega) | exact dD _ Cell.flat _ | grind[aK]),bX,rfl,cw,(by rw[aA];rfl),dU,(by rw[a8];rfl),jr,(by rw[b9];rfl),gm,iI,eH,lB,(by rw[kc];rfl),iJ,LU,(by rw[oi];rfl),ad⟩
     skip
     
     rw[show eT g cs r x=(((dN x.kind cs (⟨r.op,r.bJ.bh,r.key,r.val⟩:Cell)).1),(jF x r.bJ ((dJ x r.key r.val).1) ((dJ x r.key r.val).2.1)),true) from by grind[eT,hr,dN]];exact abm ⟨(by grind),(by grind),(by grind[cr,dM,dD,Cell.flat,aK]),bX,rfl,cw,(by rw[aA];rfl),dU,(by rw[a8];rfl),jr,(by rw[b9];rfl),gm,iI,eH,lB,(by rw[kc];rfl),iJ,(PN x ao r.bJ ((dJ x r.key r.val).1) ((dJ x r.key r.val).2.1) _),ad⟩
    skip
    rw[show eT g cs r x=(((dN x.kind cs (⟨r.op,r.bJ.bh,r.key,r.val⟩:Cell)).1),([]:List aH),true) from by grind[eT,hr,dN]];exact abf ⟨(by grind),(by grind),(by grind[cr,dM,dD,Cell.flat,aK]),bX,rfl,cw,(by rw[aA];rfl),dU,(by rw[a8];rfl),jr,(by rw[b9];rfl),gm,iI,eH,lB,(by rw[kc];rfl),ad⟩
   skip
   rcases c3 (x.kind==7) with oj | oj
   ·skip
    have LV:=wK r.bJ;rcases c3 ((gL r.bJ).2) with mi | mi
    ·skip
     
     rw[show eT g cs r x=(cs,(jF x ((gL r.bJ).1) ((dJ x r.key r.val).1) ((dJ x r.key r.val).2.1)),true) from by grind[eT,hr,dN]];exact abq ⟨(by first | omega | (simp only[cr,dM];omega) | exact dD _ Cell.flat _ | grind[aK]),(by first | omega | (simp only[cr,dM];omega) | exact dD _ Cell.flat _ | grind[aK]),(by first | omega | (simp only[cr,dM];omega) | exact dD _ Cell.flat _ | grind[aK]),bX,rfl,cw,(by rw[aA];rfl),dU,(by rw[a8];rfl),jr,(by rw[b9];rfl),gm,iI,eH,oj,LV,(by rw[mi];rfl),(Rd x ao ((gL r.bJ).1) ((dJ x r.key r.val).1) ((dJ x r.key r.val).2.1) _),ad⟩
    skip
    rw[show eT g cs r x=(cs,([]:List aH),true) from by grind[eT,hr,dN]];exact abn ⟨(by first | omega | (simp only[cr,dM];omega) | exact dD _ Cell.flat _ | grind[aK]),(by first | omega | (simp only[cr,dM];omega) | exact dD _ Cell.flat _ | grind[aK]),(by first | omega | (simp only[cr,dM];omega) | exact dD _ Cell.flat _ | grind[aK]),bX,rfl,cw,(by rw[aA];rfl),dU,(by rw[a8];rfl),jr,(by rw[b9];rfl),gm,iI,eH,oj,LV,(by rw[mi];rfl),ad⟩
   skip
   
   rw[show eT g cs r x=(cs,(jF x r.bJ ((dJ x r.key r.val).1) ((dJ x r.key r.val).2.1)),true) from by grind[eT,hr,dN]];exact aaC ⟨(by grind),(by grind),(by grind[cr,dM,dD,Cell.flat,aK]),bX,rfl,cw,(by rw[aA];rfl),dU,(by rw[a8];rfl),jr,(by rw[b9];rfl),gm,iI,eH,oj,(Re x ao r.bJ ((dJ x r.key r.val).1) ((dJ x r.key r.val).2.1) _),ad⟩
  skip
  rw[show eT g cs r x=(cs,([]:List aH),false) from by grind[eT,hr,dN]];exact abd ⟨(by grind),(by grind),(by grind[cr,dM,dD,Cell.flat,aK]),bX,rfl,cw,(by rw[aA];rfl),dU,(by rw[a8];rfl),ad⟩
 skip
 rw[show eT g cs r x=(cs,([]:List aH),false) from by grind[eT,hr,dN]];exact abb ⟨(by grind),(by grind),(by grind[cr,dM,dD,Cell.flat,aK]),bX,rfl,cw,(by rw[aA];rfl),ad⟩
end Go.Proofs.YthfnndblgbjniaaGreatDoor
namespace Go.Proofs.YthfnndblgbjniaaGreatDoor
open Go.Sx Go.RowKit Go.Proofs.Tryz
def ev(g:b1)(cs:List Cell)(r:aH):List Cell×List aH×Bool:=match gK g r.op with | some x=>eT g cs r x | none=>(cs,[],false)
theorem Rf(g:b1)(cs:List Cell)(r:aH)(ay:g.sz<=8388608)(au:cs.length<=8388608):ax 156 [.agg g.e,.one (.J 4 (cs.map Cell.e)),.agg r.e] [.one (.J 4 ((ev g cs r).1.map Cell.e)),.one (.J 5 ((ev g cs r).2.1.map aH.e)),.one (B (ev g cs r).2.2)]:=by
 unfold ev;cases h:gK g r.op with
 | some x=>exact aaM g cs r x ay au h
 | none=>exact aba ⟨by simp<;>omega,by simp<;>omega,dD _ Cell.flat _,Cn g r.op (⟨0,0,0,[]⟩,false) (by unfold sO;rw[h]) ay,rfl,ad⟩
def nX(g:b1)(r:aH)(x:Node):Bool:=ei g&&e6 r&&x.kind==7&&decide (0<x.outs.length)&&!(gL r.bJ).2
def dq(g:b1)(r:aH):Bool:=match gK g r.op with | some x=>nX g r x | none=>false
theorem aaN(g:b1)(r:aH)(x:Node)(ay:g.sz<=8388608)(a7:gK g r.op=some x):ax 157 [.agg g.e,.agg r.e] [.one (B (nX g r x))]:=by
 have bX:=Cn g r.op (x,true) (by unfold sO;rw[a7]) ay;have cw:=wK r.bJ;have cR:=wL g ay;rcases c3 (ei g) with aO | aO
 ·skip
  have hx:=rr r;rcases c3 (e6 r) with bG | bG
  ·skip
   rcases c3 (x.kind==7) with b9 | b9
   ·skip
    rcases c3 (decide ((↑(x.outs.map ba).length:Int)>0)) with da | da
    ·skip
     rw[show nX g r x=(!((gL r.bJ).2)) from by grind[nX]];exact aa4 ⟨bX,cw,rfl,cR,aO,hx,bG,b9,da,ad⟩
    skip
    rw[show nX g r x=false from by grind[nX]];exact aa5 ⟨bX,cw,rfl,cR,aO,hx,bG,b9,da,ad⟩
   skip
   rw[show nX g r x=false from by grind[nX]];exact aa6 ⟨bX,cw,rfl,cR,aO,hx,bG,b9,ad⟩
  skip
  rw[show nX g r x=false from by grind[nX]];exact aa7 ⟨bX,cw,rfl,cR,aO,hx,bG,ad⟩
 skip
 rw[show nX g r x=false from by grind[nX]];exact aa8 ⟨bX,cw,rfl,cR,aO,ad⟩
theorem Rg(g:b1)(r:aH)(ay:g.sz<=8388608):ax 157 [.agg g.e,.agg r.e] [.one (B (dq g r))]:=by
 unfold dq;cases h:gK g r.op with
 | some x=>exact aaN g r x ay h
 | none=>exact aa9 ⟨Cn g r.op (⟨0,0,0,[]⟩,false) (by unfold sO;rw[h]) ay,wK r.bJ,rfl,ad⟩
theorem I3{g:b1}(h:ei g=true){op:Int}{x:Node}(a7:gK g op=some x):aQ x=true:=by
 simp only[ei,cJ,hT]at h;unfold gK at a7;split at a7
 ·have:=B5 h.2 op.toNat x a7;simp only[ia,gh,j6]at this;exact this.1.1
 cases a7
theorem aaO{x:Node}(h:aQ x=true):x.outs.length<=2:=by
 simp only[aQ,cJ,cW]at h;exact h.1.1.1.2
theorem aaP(kind:Int)(cs:List Cell)(x:Cell):(dN kind cs x).1.length<=cs.length+1:=by
 have U:=PS cs x;have aa:=PS (cs.filter fun a=>!fZ x a) x;have aA:=rO (fun a=>!fZ x a) cs;unfold dN;split
 ·split<;>simp<;>omega
 split
 ·unfold nW;split<;>simp<;>omega
 simp
theorem aaQ{g:b1}(ay:ei g=true)(cs:List Cell)(r:aH):(ev g cs r).1.length<=cs.length+1/\(ev g cs r).2.1.length<=2:=by
 unfold ev;cases h:gK g r.op with
 | none=>exact⟨by simp,by simp⟩
 | some x=>
  have ao:=aaO (I3 ay h);have aI:=aaP x.kind cs ⟨r.op,r.bJ.bh,r.key,r.val⟩;have aj:∀s k v,(jF x s k v).length<=2:=fun s k v=>by simpa[jF]using ao
  simp only[eT];split
  ·split
   ·exact⟨by simp,by simp⟩
   split
   ·exact⟨aI,by simp⟩
   split
   ·refine⟨aI,?_⟩;cases (gL r.bJ).2 with
    | true=>exact aj _ _ _
    | false=>simp
   exact⟨aI,aj _ _ _⟩
  exact⟨by simp,by simp⟩
