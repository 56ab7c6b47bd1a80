import Derived.Test.YtdchjefneblpgaaGreatC5
import Derived.Test.YtdchjefneblpgaaGreatP108
import Derived.Test.YtdchjefneblpgaaGreatP79
import Derived.Test.YtdchjefneblpgaaGreatGO
set_option linter.unusedVariables false
set_option linter.unusedSimpArgs false
namespace Go.Proofs.YtdchjefneblpgaaGreat
open Go.Sx Go.RowKit Go.Proofs.Tryz
theorem Gj(b:List Int)(c:dG)(aj:c.ok b):∃(d:dG) (p:cN),d.ok b/\bW prog 222 [.cur (c.e b) (d.e b)] (.vals [.agg p.e]):=by
 obtain⟨d1,p,ci,_,bF⟩:=Xl b c aj;obtain⟨d2,k,b6,hk,bQ⟩:=eb b d1 10 ci (by omega);by_cases bu:k=0
 ·obtain⟨d3,v,ct,bp,cb⟩:=eb b d2 10 b6 (by omega);exact⟨d3,⟨v-1,p.a,p.b⟩,ct,asJ ⟨bF,bQ,by simp[bu],cb,⟨by omega,by omega⟩,aa⟩⟩
 by_cases e1:k=1
 ·obtain⟨d3,v,ct,bp,cb⟩:=l5 b d2 [-1,3,4,9223372036854775807] b6 (by simp);exact⟨d3,⟨p.kind,v,p.b⟩,ct,asK ⟨bF,bQ,by simp[bu],by simp[e1],cb,aa⟩⟩
 by_cases e2:k=2
 ·obtain⟨d3,v,ct,bp,cb⟩:=l5 b d2 [-1,0,3,-9223372036854775808] b6 (by simp);exact⟨d3,⟨p.kind,p.a,v⟩,ct,asL ⟨bF,bQ,by simp[bu],by simp[e1],by simp[e2],cb,aa⟩⟩
 exact⟨d2,p,b6,asM ⟨bF,bQ,by simp[bu],by simp[e1],by simp[e2],aa⟩⟩
theorem YL(b:List Int)(av:Bytes b):∃(x:a') (p:cN),(DL x/\x.sz<=8400)/\al 86 [.one (.J 1 (b.map gJ))] [.agg x.e,.agg p.e]:=by
 obtain⟨c,aj,gw⟩:=GN b av;obtain⟨d1,x,ci,ah,bF⟩:=OR b c aj;obtain⟨d2,p,b6,bQ⟩:=Gj b d1 ci;exact⟨x,p,ah,asN ⟨gw,bF,bQ,aa⟩⟩
theorem avk(b:List Int)(av:Bytes b):∃(p:cN) (f:Bool),al 95 [.one (.J 1 (b.map gJ))] [.agg p.e,.one (B f)]:=by
 obtain⟨c,aj,gw⟩:=GN b av;obtain⟨d2,p,b6,bQ⟩:=Gj b c aj;obtain⟨d3,f,ct,cb⟩:=xT b d2 2 b6 (by omega);exact⟨p,f,asU ⟨gw,bQ,cb,aa⟩⟩
theorem avl(b:List Int)(av:Bytes b):∃(x y:a') (p:cN),x.sz<=8500/\y.sz<=8500/\al 90 [.one (.J 1 (b.map gJ))] [.agg x.e,.agg y.e,.agg p.e]:=by
 obtain⟨c,aj,gw⟩:=GN b av;obtain⟨d1,x,ci,⟨iY,aB7⟩,bF⟩:=OR b c aj;obtain⟨d2,p,b6,bQ⟩:=Gj b d1 ci;obtain⟨d3,k,ct,hk,cb⟩:=eb b d2 6 b6 (by omega);have sp:=avf x p (by omega) (fun l ap=>(iY.l l ap).2);have zs:=NT x p;by_cases bu:k=0
 ·obtain⟨d4,y,fB,⟨_,aB8⟩,eE⟩:=OR b d3 ct;exact⟨x,y,p,by omega,by omega,asP ⟨gw,bF,bQ,sp,cb,by simp[bu],asO ⟨eE,aa⟩,aa⟩⟩
 by_cases e1:k=1
 ·obtain⟨d4,q,fB,eE⟩:=Gj b d3 ct;exact⟨x,_,q,by omega,by omega,asR ⟨gw,bF,bQ,sp,cb,by simp[bu],by simp[e1],asQ ⟨eE,aa⟩,aa⟩⟩
 exact⟨x,_,p,by omega,by omega,asS ⟨gw,bF,bQ,sp,cb,by simp[bu],by simp[e1],aa⟩⟩
theorem avm(p:cN)(f:Bool):al 101 [.agg p.e,.one (B f)] [.one (I (gv p f))]:=by
 cases f with
 | false=>
  have:gv p false=0:=by simp[gv]
  rw[this];exact ane ⟨rfl,rfl,aa⟩
 | true=>
  by_cases U:p.kind=2
  ·have:gv p true=1:=by simp[gv,U]
   rw[this];exact ana ⟨rfl,by simp[U],aa⟩
  by_cases h1:p.kind=1
  ·have:gv p true=2:=by simp[gv,h1]
   rw[this];exact anb ⟨rfl,by simp[U],rfl,by simp[h1],aa⟩
  have:gv p true=0:=by simp[gv,h1,U]
  rw[this];exact anc ⟨rfl,by simp[U],rfl,by simp[h1],aa⟩
theorem Oq(p:cN)(f:Bool):al 89 [.agg p.e,.one (B f)] [.one (I (gv p f))]:=by
 cases f with
 | false=>
  have:gv p false=0:=by simp[gv]
  rw[this];exact ani ⟨rfl,rfl,aa⟩
 | true=>
  by_cases U:p.kind=2
  ·have:gv p true=1:=by simp[gv,U]
   rw[this];exact anf ⟨rfl,by simp[U],aa⟩
  by_cases h1:p.kind=1
  ·have:gv p true=2:=by simp[gv,h1]
   rw[this];exact ang ⟨rfl,by simp[U],rfl,by simp[h1],aa⟩
  have:gv p true=0:=by simp[gv,h1,U]
  rw[this];exact anh ⟨rfl,by simp[U],rfl,by simp[h1],aa⟩
theorem avn(c:a')(p:cN):rp c (dK c p).1 p=gv p (dK c p).2\/(rp c (dK c p).1 p=0/\p.kind=1):=by
 rcases VO c p with⟨h1,U⟩ | ⟨_,h1,st⟩
 ·left;rw[h1,U];have:gv p false=0:=by simp[gv]
  rw[this];exact vo rfl (vQ rfl 0)
 rw[h1];exact anr st
theorem avo(b:List Int)(av:∀a∈b,(fun n=>0<=n/\n<=255) a):al 10 [.one (.J 1 (b.map gJ))] [.one (B true)]:=by
 by_cases Ef:(b.length:Int)>1048576
 ·have:=T3 (b.map gJ) trivial;rw[jj (by simpa using Ef)]at this;exact avg ⟨this,rfl,aa⟩
 have big:=T3 (b.map gJ) trivial;rw[lQ (by simpa using Ef)]at big;have pV:Bytes b:=⟨by omega,av⟩
 obtain⟨c,p,⟨mm,aDC⟩,d1⟩:=YL b pV;obtain⟨x,y,q,aB7,aB8,d2⟩:=avl b pV;obtain⟨d,r,⟨bt,aDE⟩,d30⟩:=YL b pV;have d3:=asT ⟨d30,aa⟩;obtain⟨xs,one,sa,_,_,d4⟩:=ap9 b pV;obtain⟨k,f,d5⟩:=avk b pV;have gc:gl c:=fun l ap=>(mm.l l ap).2
 have zs:=NT c p;have d':=ave c p (by omega) gc;have a2:=XB c (dK c p).1 p (by omega) (by omega);have a3:=WG c (by omega) gc;have a4:=Oq p (dK c p).2;have eC:=Mm d r (by omega);have fG:=Ml d r (by omega);have s4:=XB x y q (by omega) (by omega);have wo:=anp x y q (by omega) (by omega);have Ia:=Xs d r (by omega);have Ib:=Xr d r (by omega);have Ic:=XV (lJ d r) (sW (Xt d r) (by omega));have Ie:=VK xs one (by omega);have Ig:=VJ xs one (by omega);have aC5:=Fz xs one;have H8:=XV (l2 xs one) (by omega);have H9:=Oq k f;have H':=avm k f;have DT:=Oq ⟨1,0,0⟩ true;have last:gv ⟨1,0,0⟩ true=2:=by decide
 rw[last]at DT;have key:=avn c p;cases cF:cU c with
 | false=>
  rw[cF]at a3;exact avj ⟨big,rfl,d1,d',a2,a3,rfl,d2,d3,eC,fG,d4,d5,s4,wo,by simp,by simp,by simp,Ia,Ib,Ic,rfl,Ie,Ig,H8,rfl,H9,H',by simp,DT,aa⟩
 | true=>
  rw[cF]at a3;by_cases he:rp c (dK c p).1 p=gv p (dK c p).2
  ·exact avi ⟨big,rfl,d1,d',a2,a3,rfl,a4,by simp[he],d2,d3,eC,fG,d4,d5,s4,wo,by simp,by simp,by simp,Ia,Ib,Ic,rfl,Ie,Ig,H8,rfl,H9,H',by simp,DT,aa⟩
  obtain⟨bG,h1⟩:=key.resolve_left he;exact avh ⟨big,rfl,d1,d',a2,a3,rfl,a4,by simpa using he,by simp[bG],by simp[h1],d2,d3,eC,fG,d4,d5,s4,wo,by simp,by simp,by simp,Ia,Ib,Ic,rfl,Ie,Ig,H8,rfl,H9,H',by simp,DT,aa⟩
