import Derived.Test.YtdchjefneblpgaaGreatC5
import Derived.Test.YtdchjefneblpgaaGreatG1
set_option linter.unusedVariables false
set_option linter.unusedSimpArgs false
namespace Go.Proofs.YtdchjefneblpgaaGreat
open Go.Sx Go.RowKit Go.Proofs.Tryz
theorem DY(a b:Int):(a==b)=decide (a=b):=by rw[Bool.eq_iff_iff];simp
theorem FZ(a b:Bool):(a==b)=decide (a=b):=by cases a<;>cases b<;>rfl
theorem F0(a b:cx):(a.bh==b.bh&&a.cw==b.cw)=decide (a=b):=by
 cases a;cases b;rw[Bool.eq_iff_iff];simp
theorem F1(a b:cb):(a.dest==b.dest&&(a.bh==b.bh&&a.cw==b.cw))=decide (a=b):=by
 cases a;cases b;rw[Bool.eq_iff_iff];simp
theorem F2(a b:bT):(a.going==b.going&&(a.place==b.place&&(a.sum==b.sum&&(a.bN==b.bN&&a.cw==b.cw))))=decide (a=b):=by
 cases a;cases b;rw[Bool.eq_iff_iff];simp
theorem BC(xs ys:List Int)(aa:xs.length<=8388608):aw 70 [.one (.J 1 (xs.map bb)),.one (.J 1 (ys.map bb))] [.one (B (decide (xs=ys)))]:=by
 by_cases ag:xs.length=ys.length
 ·have l:=kt (P:=prog) (c:=(aq f70 0)) xs ys ag (fun i=>vf (xs.map bb) (ys.map bb) i) (X:=MS false) dZ (cC 0)
   (fun i a b ae aj h=>UA ⟨bV (aP ae),bk,bm (aP ae),bl bb ae,bk,bm (aP aj),bl bb aj,nJ ((DY a b).trans h),c3 (aP ae) aa,ad⟩)
   (fun i a b ae aj h=>akf ⟨bV (aP ae),bk,bm (aP ae),bl bb ae,bk,bm (aP aj),bl bb aj,nI ((DY a b).trans h),ad⟩)
   (V2 ⟨dk,ad⟩)
  rcases l with⟨h,l⟩ | ⟨h,l⟩
  ·rw[bU h];exact V3 ⟨fy ag,l,ad⟩
  rw[bY h];exact akg ⟨fy ag,l,ad⟩
 rw[bY (fun e=>ag (by rw[e]))];exact ake ⟨ku ag,ad⟩
theorem BD(xs ys:List Int)(aa:xs.length<=8388608):aw 285 [.one (.J 1 (xs.map bb)),.one (.J 1 (ys.map bb))] [.one (B (decide (xs=ys)))]:=by
 by_cases ag:xs.length=ys.length
 ·have l:=kt (P:=prog) (c:=(aq f285 0)) xs ys ag (fun i=>w4 (xs.map bb) (ys.map bb) i) (X:=Me false) dZ (cC 0)
   (fun i a b ae aj h=>amL ⟨bV (aP ae),bk,bm (aP ae),bl bb ae,bk,bm (aP aj),bl bb aj,nJ ((DY a b).trans h),c3 (aP ae) aa,ad⟩)
   (fun i a b ae aj h=>amK ⟨bV (aP ae),bk,bm (aP ae),bl bb ae,bk,bm (aP aj),bl bb aj,nI ((DY a b).trans h),ad⟩)
   (amM ⟨dk,ad⟩)
  rcases l with⟨h,l⟩ | ⟨h,l⟩
  ·rw[bU h];exact amO ⟨fy ag,l,ad⟩
  rw[bY h];exact amN ⟨fy ag,l,ad⟩
 rw[bY (fun e=>ag (by rw[e]))];exact amJ ⟨ku ag,ad⟩
theorem BE(xs ys:List Bool)(aa:xs.length<=8388608):aw 172 [.one (.J 1 (xs.map cy)),.one (.J 1 (ys.map cy))] [.one (B (decide (xs=ys)))]:=by
 by_cases ag:xs.length=ys.length
 ·have l:=kt (P:=prog) (c:=(aq f172 0)) xs ys ag (fun i=>vg (xs.map cy) (ys.map cy) i) (X:=MT false) dZ (cC 0)
   (fun i a b ae aj h=>V4 ⟨bV (aP ae),bk,bm (aP ae),bl cy ae,bk,bm (aP aj),bl cy aj,nJ ((FZ a b).trans h),c3 (aP ae) aa,ad⟩)
   (fun i a b ae aj h=>aki ⟨bV (aP ae),bk,bm (aP ae),bl cy ae,bk,bm (aP aj),bl cy aj,nI ((FZ a b).trans h),ad⟩)
   (V6 ⟨dk,ad⟩)
  rcases l with⟨h,l⟩ | ⟨h,l⟩
  ·rw[bU h];exact V7 ⟨fy ag,l,ad⟩
  rw[bY h];exact akj ⟨fy ag,l,ad⟩
 rw[bY (fun e=>ag (by rw[e]))];exact akh ⟨ku ag,ad⟩
theorem BF(xs ys:List Bool)(aa:xs.length<=8388608):aw 286 [.one (.J 1 (xs.map cy)),.one (.J 1 (ys.map cy))] [.one (B (decide (xs=ys)))]:=by
 by_cases ag:xs.length=ys.length
 ·have l:=kt (P:=prog) (c:=(aq f286 0)) xs ys ag (fun i=>w5 (xs.map cy) (ys.map cy) i) (X:=Mf false) dZ (cC 0)
   (fun i a b ae aj h=>amR ⟨bV (aP ae),bk,bm (aP ae),bl cy ae,bk,bm (aP aj),bl cy aj,nJ ((FZ a b).trans h),c3 (aP ae) aa,ad⟩)
   (fun i a b ae aj h=>amQ ⟨bV (aP ae),bk,bm (aP ae),bl cy ae,bk,bm (aP aj),bl cy aj,nI ((FZ a b).trans h),ad⟩)
   (amS ⟨dk,ad⟩)
  rcases l with⟨h,l⟩ | ⟨h,l⟩
  ·rw[bU h];exact al4 ⟨fy ag,l,ad⟩
  rw[bY h];exact amT ⟨fy ag,l,ad⟩
 rw[bY (fun e=>ag (by rw[e]))];exact amP ⟨ku ag,ad⟩
theorem amb(xs ys:List cx)(aa:xs.length<=8388608):aw 173 [.one (.J 2 (xs.map cx.e)),.one (.J 2 (ys.map cx.e))] [.one (B (decide (xs=ys)))]:=by
 by_cases ag:xs.length=ys.length
 ·have l:=kt (P:=prog) (c:=(aq f173 0)) xs ys ag (fun i=>vh (xs.map cx.e) (ys.map cx.e) i) (X:=MU false) dZ (cC 0)
   (fun i a b ae aj h=>V8 ⟨bV (aP ae),bk,bm (aP ae),bl cx.e ae,bk,bm (aP aj),bl cx.e aj,nJ ((F0 a b).trans h),c3 (aP ae) aa,ad⟩)
   (fun i a b ae aj h=>akl ⟨bV (aP ae),bk,bm (aP ae),bl cx.e ae,bk,bm (aP aj),bl cx.e aj,nI ((F0 a b).trans h),ad⟩)
   (V' ⟨dk,ad⟩)
  rcases l with⟨h,l⟩ | ⟨h,l⟩
  ·rw[bU h];exact Wa ⟨fy ag,l,ad⟩
  rw[bY h];exact akm ⟨fy ag,l,ad⟩
 rw[bY (fun e=>ag (by rw[e]))];exact akk ⟨ku ag,ad⟩
theorem amc(xs ys:List cx)(aa:xs.length<=8388608):aw 287 [.one (.J 2 (xs.map cx.e)),.one (.J 2 (ys.map cx.e))] [.one (B (decide (xs=ys)))]:=by
 by_cases ag:xs.length=ys.length
 ·have l:=kt (P:=prog) (c:=(aq f287 0)) xs ys ag (fun i=>w6 (xs.map cx.e) (ys.map cx.e) i) (X:=Mg false) dZ (cC 0)
   (fun i a b ae aj h=>al7 ⟨bV (aP ae),bk,bm (aP ae),bl cx.e ae,bk,bm (aP aj),bl cx.e aj,nJ ((F0 a b).trans h),c3 (aP ae) aa,ad⟩)
   (fun i a b ae aj h=>al6 ⟨bV (aP ae),bk,bm (aP ae),bl cx.e ae,bk,bm (aP aj),bl cx.e aj,nI ((F0 a b).trans h),ad⟩)
   (al8 ⟨dk,ad⟩)
  rcases l with⟨h,l⟩ | ⟨h,l⟩
  ·rw[bU h];exact ama ⟨fy ag,l,ad⟩
  rw[bY h];exact al9 ⟨fy ag,l,ad⟩
 rw[bY (fun e=>ag (by rw[e]))];exact al5 ⟨ku ag,ad⟩
theorem VT(xs ys:List bT)(aa:xs.length<=8388608):aw 162 [.one (.J 5 (xs.map bT.e)),.one (.J 5 (ys.map bT.e))] [.one (B (decide (xs=ys)))]:=by
 by_cases ag:xs.length=ys.length
 ·have l:=kt (P:=prog) (c:=(aq f162 0)) xs ys ag (fun i=>vi (xs.map bT.e) (ys.map bT.e) i) (X:=MV false) dZ (cC 0)
   (fun i a b ae aj h=>Wb ⟨bV (aP ae),bk,bm (aP ae),bl bT.e ae,bk,bm (aP aj),bl bT.e aj,nJ ((F2 a b).trans h),c3 (aP ae) aa,ad⟩)
   (fun i a b ae aj h=>ako ⟨bV (aP ae),bk,bm (aP ae),bl bT.e ae,bk,bm (aP aj),bl bT.e aj,nI ((F2 a b).trans h),ad⟩)
   (Wd ⟨dk,ad⟩)
  rcases l with⟨h,l⟩ | ⟨h,l⟩
  ·rw[bU h];exact We ⟨fy ag,l,ad⟩
  rw[bY h];exact akp ⟨fy ag,l,ad⟩
 rw[bY (fun e=>ag (by rw[e]))];exact akn ⟨ku ag,ad⟩
theorem VU(xs ys:List bT)(aa:xs.length<=8388608):aw 198 [.one (.J 5 (xs.map bT.e)),.one (.J 5 (ys.map bT.e))] [.one (B (decide (xs=ys)))]:=by
 by_cases ag:xs.length=ys.length
 ·have l:=kt (P:=prog) (c:=(aq f198 0)) xs ys ag (fun i=>w2 (xs.map bT.e) (ys.map bT.e) i) (X:=M4 false) dZ (cC 0)
   (fun i a b ae aj h=>amz ⟨bV (aP ae),bk,bm (aP ae),bl bT.e ae,bk,bm (aP aj),bl bT.e aj,nJ ((F2 a b).trans h),c3 (aP ae) aa,ad⟩)
   (fun i a b ae aj h=>amy ⟨bV (aP ae),bk,bm (aP ae),bl bT.e ae,bk,bm (aP aj),bl bT.e aj,nI ((F2 a b).trans h),ad⟩)
   (amA ⟨dk,ad⟩)
  rcases l with⟨h,l⟩ | ⟨h,l⟩
  ·rw[bU h];exact amC ⟨fy ag,l,ad⟩
  rw[bY h];exact amB ⟨fy ag,l,ad⟩
 rw[bY (fun e=>ag (by rw[e]))];exact amx ⟨ku ag,ad⟩
theorem amd(xs ys:List cb)(aa:xs.length<=8388608):aw 163 [.one (.J 3 (xs.map cb.e)),.one (.J 3 (ys.map cb.e))] [.one (B (decide (xs=ys)))]:=by
 by_cases ag:xs.length=ys.length
 ·have l:=kt (P:=prog) (c:=(aq f163 0)) xs ys ag (fun i=>uK (xs.map cb.e) (ys.map cb.e) i) (X:=MW false) dZ (cC 0)
   (fun i a b ae aj h=>Wf ⟨bV (aP ae),bk,bm (aP ae),bl cb.e ae,bk,bm (aP aj),bl cb.e aj,nJ ((F1 a b).trans h),c3 (aP ae) aa,ad⟩)
   (fun i a b ae aj h=>akr ⟨bV (aP ae),bk,bm (aP ae),bl cb.e ae,bk,bm (aP aj),bl cb.e aj,nI ((F1 a b).trans h),ad⟩)
   (Wh ⟨dk,ad⟩)
  rcases l with⟨h,l⟩ | ⟨h,l⟩
  ·rw[bU h];exact Wi ⟨fy ag,l,ad⟩
  rw[bY h];exact ajS ⟨fy ag,l,ad⟩
 rw[bY (fun e=>ag (by rw[e]))];exact akq ⟨ku ag,ad⟩
theorem ame(xs ys:List cb)(aa:xs.length<=8388608):aw 199 [.one (.J 3 (xs.map cb.e)),.one (.J 3 (ys.map cb.e))] [.one (B (decide (xs=ys)))]:=by
 by_cases ag:xs.length=ys.length
 ·have l:=kt (P:=prog) (c:=(aq f199 0)) xs ys ag (fun i=>w3 (xs.map cb.e) (ys.map cb.e) i) (X:=M5 false) dZ (cC 0)
   (fun i a b ae aj h=>amF ⟨bV (aP ae),bk,bm (aP ae),bl cb.e ae,bk,bm (aP aj),bl cb.e aj,nJ ((F1 a b).trans h),c3 (aP ae) aa,ad⟩)
   (fun i a b ae aj h=>amE ⟨bV (aP ae),bk,bm (aP ae),bl cb.e ae,bk,bm (aP aj),bl cb.e aj,nI ((F1 a b).trans h),ad⟩)
   (amG ⟨dk,ad⟩)
  rcases l with⟨h,l⟩ | ⟨h,l⟩
  ·rw[bU h];exact amI ⟨fy ag,l,ad⟩
  rw[bY h];exact amH ⟨fy ag,l,ad⟩
 rw[bY (fun e=>ag (by rw[e]))];exact amD ⟨ku ag,ad⟩
theorem VV(x y:Node)(aa:x.sz<=8388608):aw 321 [.agg x.e,.agg y.e] [.one (B (decide (x=y)))]:=by
 have ai:=aa;simp only[Node.sz]at aa;by_cases bg:x.kind=y.kind
 case neg=>exact (bY (fun e=>bg (by rw[e]):¬x=y))▸ajV ⟨by simp[bg],ad⟩
 by_cases h1:x.a=y.a
 case neg=>exact (bY (fun e=>h1 (by rw[e]):¬x=y))▸ajU ⟨by simp[bg],by simp[h1],ad⟩
 by_cases U:x.b=y.b
 case neg=>exact (bY (fun e=>U (by rw[e]):¬x=y))▸ajT ⟨by simp[bg],by simp[h1],by simp[U],ad⟩
 have e:decide (x.outs=y.outs)=decide (x=y):=by
  obtain⟨a0,ej,a2,a3⟩:=x;obtain⟨b9,eP,eX,jA⟩:=y;simp_all
 exact Wj ⟨by simp[bg],by simp[h1],by simp[U],e▸BC x.outs y.outs (by omega),ad⟩
theorem Mh(xs ys:List Node)(aa:eZ Node.sz xs<=8388608):aw 262 [.one (.J 4 (xs.map Node.e)),.one (.J 4 (ys.map Node.e))] [.one (B (decide (xs=ys)))]:=by
 have hk:=qw aa;by_cases ag:xs.length=ys.length
 ·have l:=kt (P:=prog) (c:=(aq f262 0)) xs ys ag (fun i=>uL (xs.map Node.e) (ys.map Node.e) i) (X:=MX false) dZ (cC 0)
   (fun i a b ae aj h=>Wk ⟨bV (aP ae),bk,bm (aP ae),bl Node.e ae,bk,bm (aP aj),bl Node.e aj,(by have k:=VV a b (kQ aa (cS ae));rwa[h]at k),rfl,c3 (aP ae) hk,ad⟩)
   (fun i a b ae aj h=>ajX ⟨bV (aP ae),bk,bm (aP ae),bl Node.e ae,bk,bm (aP aj),bl Node.e aj,(by have k:=VV a b (kQ aa (cS ae));rwa[h]at k),rfl,ad⟩)
   (Wm ⟨dk,ad⟩)
  rcases l with⟨h,l⟩ | ⟨h,l⟩
  ·rw[bU h];exact Wn ⟨fy ag,l,ad⟩
  rw[bY h];exact ajY ⟨fy ag,l,ad⟩
 rw[bY (fun e=>ag (by rw[e]))];exact ajW ⟨ku ag,ad⟩
theorem BG(x y:bS)(aa:x.sz<=8388608):aw 159 [.agg x.e,.agg y.e] [.one (B (decide (x=y)))]:=by
 have ai:=aa;simp only[bS.sz]at aa;by_cases bg:x.nodes=y.nodes
 case neg=>exact (bY (fun e=>bg (by rw[e]):¬x=y))▸aj0 ⟨(by have k:=Mh x.nodes y.nodes (by omega);rwa[bY bg]at k),rfl,ad⟩
 by_cases h1:x.ap=y.ap
 case neg=>exact (bY (fun e=>h1 (by rw[e]):¬x=y))▸ajZ ⟨(by have k:=Mh x.nodes y.nodes (by omega);rwa[bU bg]at k),rfl,by simp[h1],ad⟩
 have e:(x.cap==y.cap)=decide (x=y):=by
  obtain⟨a0,ej,a2⟩:=x;obtain⟨b9,eP,eX⟩:=y;rw[Bool.eq_iff_iff];simp_all
 exact e▸Wo ⟨(by have k:=Mh x.nodes y.nodes (by omega);rwa[bU bg]at k),rfl,by simp[h1],ad⟩
theorem VW(x y:bD)(aa:x.sz<=8388608):aw 263 [.agg x.e,.agg y.e] [.one (B (decide (x=y)))]:=by
 have ai:=aa;simp only[bD.sz]at aa;by_cases bg:x.cap=y.cap
 case neg=>exact (bY (fun e=>bg (by rw[e]):¬x=y))▸alx ⟨by simp[bg],ad⟩
 by_cases h1:x.queue=y.queue
 case neg=>exact (bY (fun e=>h1 (by rw[e]):¬x=y))▸alw ⟨by simp[bg],(by have k:=il x.queue y.queue (by omega);rwa[bY h1]at k),rfl,ad⟩
 by_cases U:x.eM=y.eM
 case neg=>exact (bY (fun e=>U (by rw[e]):¬x=y))▸alv ⟨by simp[bg],(by have k:=il x.queue y.queue (by omega);rwa[bU h1]at k),rfl,by simp[U],ad⟩
 by_cases ax:x.back=y.back
 case neg=>exact (bY (fun e=>ax (by rw[e]):¬x=y))▸alu ⟨by simp[bg],(by have k:=il x.queue y.queue (by omega);rwa[bU h1]at k),rfl,by simp[U],by simp[ax],ad⟩
 by_cases aK:x.eu=y.eu
 case neg=>exact (bY (fun e=>aK (by rw[e]):¬x=y))▸aj1 ⟨by simp[bg],(by have k:=il x.queue y.queue (by omega);rwa[bU h1]at k),rfl,by simp[U],by simp[ax],by simp[aK],ad⟩
 have e:(x.dv==y.dv)=decide (x=y):=by
  obtain⟨a0,ej,a2,a3,a4,a5⟩:=x;obtain⟨b9,eP,eX,jA,si,Hn⟩:=y;rw[Bool.eq_iff_iff];simp_all
 exact e▸Wp ⟨by simp[bg],(by have k:=il x.queue y.queue (by omega);rwa[bU h1]at k),rfl,by simp[U],by simp[ax],by simp[aK],ad⟩
theorem Mi(xs ys:List bD)(aa:eZ bD.sz xs<=8388608):aw 161 [.one (.J 6 (xs.map bD.e)),.one (.J 6 (ys.map bD.e))] [.one (B (decide (xs=ys)))]:=by
 have hk:=qw aa;by_cases ag:xs.length=ys.length
 ·have l:=kt (P:=prog) (c:=(aq f161 0)) xs ys ag (fun i=>uM (xs.map bD.e) (ys.map bD.e) i) (X:=MY false) dZ (cC 0)
   (fun i a b ae aj h=>VB ⟨bV (aP ae),bk,bm (aP ae),bl bD.e ae,bk,bm (aP aj),bl bD.e aj,(by have k:=VW a b (kQ aa (cS ae));rwa[h]at k),rfl,c3 (aP ae) hk,ad⟩)
   (fun i a b ae aj h=>alz ⟨bV (aP ae),bk,bm (aP ae),bl bD.e ae,bk,bm (aP aj),bl bD.e aj,(by have k:=VW a b (kQ aa (cS ae));rwa[h]at k),rfl,ad⟩)
   (VD ⟨dk,ad⟩)
  rcases l with⟨h,l⟩ | ⟨h,l⟩
  ·rw[bU h];exact VE ⟨fy ag,l,ad⟩
  rw[bY h];exact alA ⟨fy ag,l,ad⟩
 rw[bY (fun e=>ag (by rw[e]))];exact aly ⟨ku ag,ad⟩
theorem VX(x y:aQ)(aa:x.sz<=8388608):aw 47 [.agg x.e,.agg y.e] [.one (B (decide (x=y)))]:=by
 have ai:=aa;simp only[aQ.sz]at aa;by_cases bg:x.queue=y.queue
 case neg=>exact (bY (fun e=>bg (by rw[e]):¬x=y))▸alH ⟨(by have k:=il x.queue y.queue (by omega);rwa[bY bg]at k),rfl,ad⟩
 by_cases h1:x.b3=y.b3
 case neg=>exact (bY (fun e=>h1 (by rw[e]):¬x=y))▸alG ⟨(by have k:=il x.queue y.queue (by omega);rwa[bU bg]at k),rfl,(by have k:=il x.b3 y.b3 (by omega);rwa[bY h1]at k),rfl,ad⟩
 by_cases U:x.bK=y.bK
 case neg=>exact (bY (fun e=>U (by rw[e]):¬x=y))▸alF ⟨(by have k:=il x.queue y.queue (by omega);rwa[bU bg]at k),rfl,(by have k:=il x.b3 y.b3 (by omega);rwa[bU h1]at k),rfl,(by have k:=il x.bK y.bK (by omega);rwa[bY U]at k),rfl,ad⟩
 by_cases ax:x.cells=y.cells
 case neg=>exact (bY (fun e=>ax (by rw[e]):¬x=y))▸alE ⟨(by have k:=il x.queue y.queue (by omega);rwa[bU bg]at k),rfl,(by have k:=il x.b3 y.b3 (by omega);rwa[bU h1]at k),rfl,(by have k:=il x.bK y.bK (by omega);rwa[bU U]at k),rfl,(by have k:=BB x.cells y.cells (by omega);rwa[bY ax]at k),rfl,ad⟩
 by_cases aK:x.bG=y.bG
 case neg=>exact (bY (fun e=>aK (by rw[e]):¬x=y))▸alD ⟨(by have k:=il x.queue y.queue (by omega);rwa[bU bg]at k),rfl,(by have k:=il x.b3 y.b3 (by omega);rwa[bU h1]at k),rfl,(by have k:=il x.bK y.bK (by omega);rwa[bU U]at k),rfl,(by have k:=BB x.cells y.cells (by omega);rwa[bU ax]at k),rfl,(by have k:=BC x.bG y.bG (by omega);rwa[bY aK]at k),rfl,ad⟩
 by_cases a7:x.bN=y.bN
 case neg=>exact (bY (fun e=>a7 (by rw[e]):¬x=y))▸alC ⟨(by have k:=il x.queue y.queue (by omega);rwa[bU bg]at k),rfl,(by have k:=il x.b3 y.b3 (by omega);rwa[bU h1]at k),rfl,(by have k:=il x.bK y.bK (by omega);rwa[bU U]at k),rfl,(by have k:=BB x.cells y.cells (by omega);rwa[bU ax]at k),rfl,(by have k:=BC x.bG y.bG (by omega);rwa[bU aK]at k),rfl,(by have k:=BE x.bN y.bN (by omega);rwa[bY a7]at k),rfl,ad⟩
 by_cases bp:x.bB=y.bB
 case neg=>exact (bY (fun e=>bp (by rw[e]):¬x=y))▸alB ⟨(by have k:=il x.queue y.queue (by omega);rwa[bU bg]at k),rfl,(by have k:=il x.b3 y.b3 (by omega);rwa[bU h1]at k),rfl,(by have k:=il x.bK y.bK (by omega);rwa[bU U]at k),rfl,(by have k:=BB x.cells y.cells (by omega);rwa[bU ax]at k),rfl,(by have k:=BC x.bG y.bG (by omega);rwa[bU aK]at k),rfl,(by have k:=BE x.bN y.bN (by omega);rwa[bU a7]at k),rfl,(by have k:=BE x.bB y.bB (by omega);rwa[bY bp]at k),rfl,ad⟩
 have e:decide (x.b'=y.b')=decide (x=y):=by
  obtain⟨a0,ej,a2,a3,a4,a5,ZM,ZN⟩:=x;obtain⟨b9,eP,eX,jA,si,Hn,ZR,ZS⟩:=y;simp_all
 exact VF ⟨(by have k:=il x.queue y.queue (by omega);rwa[bU bg]at k),rfl,(by have k:=il x.b3 y.b3 (by omega);rwa[bU h1]at k),rfl,(by have k:=il x.bK y.bK (by omega);rwa[bU U]at k),rfl,(by have k:=BB x.cells y.cells (by omega);rwa[bU ax]at k),rfl,(by have k:=BC x.bG y.bG (by omega);rwa[bU aK]at k),rfl,(by have k:=BE x.bN y.bN (by omega);rwa[bU a7]at k),rfl,(by have k:=BE x.bB y.bB (by omega);rwa[bU bp]at k),rfl,e▸amb x.b' y.b' (by omega),ad⟩
theorem F3(xs ys:List aQ)(aa:eZ aQ.sz xs<=8388608):aw 160 [.one (.J 8 (xs.map aQ.e)),.one (.J 8 (ys.map aQ.e))] [.one (B (decide (xs=ys)))]:=by
 have hk:=qw aa;by_cases ag:xs.length=ys.length
 ·have l:=kt (P:=prog) (c:=(aq f160 0)) xs ys ag (fun i=>uN (xs.map aQ.e) (ys.map aQ.e) i) (X:=MZ false) dZ (cC 0)
   (fun i a b ae aj h=>VG ⟨bV (aP ae),bk,bm (aP ae),bl aQ.e ae,bk,bm (aP aj),bl aQ.e aj,(by have k:=VX a b (kQ aa (cS ae));rwa[h]at k),rfl,c3 (aP ae) hk,ad⟩)
   (fun i a b ae aj h=>alJ ⟨bV (aP ae),bk,bm (aP ae),bl aQ.e ae,bk,bm (aP aj),bl aQ.e aj,(by have k:=VX a b (kQ aa (cS ae));rwa[h]at k),rfl,ad⟩)
   (VI ⟨dk,ad⟩)
  rcases l with⟨h,l⟩ | ⟨h,l⟩
  ·rw[bU h];exact VJ ⟨fy ag,l,ad⟩
  rw[bY h];exact alK ⟨fy ag,l,ad⟩
 rw[bY (fun e=>ag (by rw[e]))];exact alI ⟨ku ag,ad⟩
theorem amf(x y:a8)(aa:x.sz<=8388608):aw 35 [.agg x.e,.agg y.e] [.one (B (decide (x=y)))]:=by
 have ai:=aa;simp only[a8.sz]at aa;by_cases bg:x.aC=y.aC
 case neg=>exact (bY (fun e=>bg (by rw[e]):¬x=y))▸alO ⟨(by have k:=BG x.aC y.aC (by omega);rwa[bY bg]at k),rfl,ad⟩
 by_cases h1:x.ap=y.ap
 case neg=>exact (bY (fun e=>h1 (by rw[e]):¬x=y))▸alN ⟨(by have k:=BG x.aC y.aC (by omega);rwa[bU bg]at k),rfl,(by have k:=F3 x.ap y.ap (by omega);rwa[bY h1]at k),rfl,ad⟩
 by_cases U:x.bR=y.bR
 case neg=>exact (bY (fun e=>U (by rw[e]):¬x=y))▸alM ⟨(by have k:=BG x.aC y.aC (by omega);rwa[bU bg]at k),rfl,(by have k:=F3 x.ap y.ap (by omega);rwa[bU h1]at k),rfl,(by have k:=Mi x.bR y.bR (by omega);rwa[bY U]at k),rfl,ad⟩
 by_cases ax:x.tokens=y.tokens
 case neg=>exact (bY (fun e=>ax (by rw[e]):¬x=y))▸alL ⟨(by have k:=BG x.aC y.aC (by omega);rwa[bU bg]at k),rfl,(by have k:=F3 x.ap y.ap (by omega);rwa[bU h1]at k),rfl,(by have k:=Mi x.bR y.bR (by omega);rwa[bU U]at k),rfl,(by have k:=VT x.tokens y.tokens (by omega);rwa[bY ax]at k),rfl,ad⟩
 have e:decide (x.news=y.news)=decide (x=y):=by
  obtain⟨a0,ej,a2,a3,a4⟩:=x;obtain⟨b9,eP,eX,jA,si⟩:=y;simp_all
 exact VK ⟨(by have k:=BG x.aC y.aC (by omega);rwa[bU bg]at k),rfl,(by have k:=F3 x.ap y.ap (by omega);rwa[bU h1]at k),rfl,(by have k:=Mi x.bR y.bR (by omega);rwa[bU U]at k),rfl,(by have k:=VT x.tokens y.tokens (by omega);rwa[bU ax]at k),rfl,e▸amd x.news y.news (by omega),ad⟩
theorem VY(x y:Node)(aa:x.sz<=8388608):aw 284 [.agg x.e,.agg y.e] [.one (B (decide (x=y)))]:=by
 have ai:=aa;simp only[Node.sz]at aa;by_cases bg:x.kind=y.kind
 case neg=>exact (bY (fun e=>bg (by rw[e]):¬x=y))▸aln ⟨by simp[bg],ad⟩
 by_cases h1:x.a=y.a
 case neg=>exact (bY (fun e=>h1 (by rw[e]):¬x=y))▸alm ⟨by simp[bg],by simp[h1],ad⟩
 by_cases U:x.b=y.b
 case neg=>exact (bY (fun e=>U (by rw[e]):¬x=y))▸alk ⟨by simp[bg],by simp[h1],by simp[U],ad⟩
 have e:decide (x.outs=y.outs)=decide (x=y):=by
  obtain⟨a0,ej,a2,a3⟩:=x;obtain⟨b9,eP,eX,jA⟩:=y;simp_all
 exact alj ⟨by simp[bg],by simp[h1],by simp[U],e▸BD x.outs y.outs (by omega),ad⟩
theorem Mj(xs ys:List Node)(aa:eZ Node.sz xs<=8388608):aw 283 [.one (.J 4 (xs.map Node.e)),.one (.J 4 (ys.map Node.e)),.one (.cl 284 [])] [.one (B (decide (xs=ys)))]:=by
 have hk:=qw aa;by_cases ag:xs.length=ys.length
 ·have l:=kt (P:=prog) (c:=(aq f283 0)) xs ys ag (fun i=>wZ (xs.map Node.e) (ys.map Node.e) 284 [] i) (X:=M3 false) dZ (cC 0)
   (fun i a b ae aj h=>ak1 ⟨bV (aP ae),bk,bm (aP ae),bl Node.e ae,bk,bm (aP aj),bl Node.e aj,by kernel_rfl,(by have k:=VY a b (kQ aa (cS ae));rwa[h]at k),rfl,c3 (aP ae) hk,ad⟩)
   (fun i a b ae aj h=>ak0 ⟨bV (aP ae),bk,bm (aP ae),bl Node.e ae,bk,bm (aP aj),bl Node.e aj,by kernel_rfl,(by have k:=VY a b (kQ aa (cS ae));rwa[h]at k),rfl,ad⟩)
   (amu ⟨dk,ad⟩)
  rcases l with⟨h,l⟩ | ⟨h,l⟩
  ·rw[bU h];exact amw ⟨fy ag,l,ad⟩
  rw[bY h];exact amv ⟨fy ag,l,ad⟩
 rw[bY (fun e=>ag (by rw[e]))];exact akZ ⟨ku ag,ad⟩
theorem BH(x y:bS)(aa:x.sz<=8388608):aw 193 [.agg x.e,.agg y.e] [.one (B (decide (x=y)))]:=by
 have ai:=aa;simp only[bS.sz]at aa;by_cases bg:x.nodes=y.nodes
 case neg=>exact (bY (fun e=>bg (by rw[e]):¬x=y))▸ak4 ⟨(by have k:=Mj x.nodes y.nodes (by omega);rwa[bY bg]at k),rfl,ad⟩
 by_cases h1:x.ap=y.ap
 case neg=>exact (bY (fun e=>h1 (by rw[e]):¬x=y))▸ak3 ⟨(by have k:=Mj x.nodes y.nodes (by omega);rwa[bU bg]at k),rfl,by simp[h1],ad⟩
 have e:(x.cap==y.cap)=decide (x=y):=by
  obtain⟨a0,ej,a2⟩:=x;obtain⟨b9,eP,eX⟩:=y;rw[Bool.eq_iff_iff];simp_all
 exact e▸ak2 ⟨(by have k:=Mj x.nodes y.nodes (by omega);rwa[bU bg]at k),rfl,by simp[h1],ad⟩
theorem VZ(x y:bD)(aa:x.sz<=8388608):aw 197 [.agg x.e,.agg y.e] [.one (B (decide (x=y)))]:=by
 have ai:=aa;simp only[bD.sz]at aa;by_cases bg:x.cap=y.cap
 case neg=>exact (bY (fun e=>bg (by rw[e]):¬x=y))▸ali ⟨by simp[bg],ad⟩
 by_cases h1:x.queue=y.queue
 case neg=>exact (bY (fun e=>h1 (by rw[e]):¬x=y))▸alh ⟨by simp[bg],(by have k:=ik x.queue y.queue (by omega);rwa[bY h1]at k),rfl,ad⟩
 by_cases U:x.eM=y.eM
 case neg=>exact (bY (fun e=>U (by rw[e]):¬x=y))▸alg ⟨by simp[bg],(by have k:=ik x.queue y.queue (by omega);rwa[bU h1]at k),rfl,by simp[U],ad⟩
 by_cases ax:x.back=y.back
 case neg=>exact (bY (fun e=>ax (by rw[e]):¬x=y))▸alf ⟨by simp[bg],(by have k:=ik x.queue y.queue (by omega);rwa[bU h1]at k),rfl,by simp[U],by simp[ax],ad⟩
 by_cases aK:x.eu=y.eu
 case neg=>exact (bY (fun e=>aK (by rw[e]):¬x=y))▸ale ⟨by simp[bg],(by have k:=ik x.queue y.queue (by omega);rwa[bU h1]at k),rfl,by simp[U],by simp[ax],by simp[aK],ad⟩
 have e:(x.dv==y.dv)=decide (x=y):=by
  obtain⟨a0,ej,a2,a3,a4,a5⟩:=x;obtain⟨b9,eP,eX,jA,si,Hn⟩:=y;rw[Bool.eq_iff_iff];simp_all
 exact e▸ald ⟨by simp[bg],(by have k:=ik x.queue y.queue (by omega);rwa[bU h1]at k),rfl,by simp[U],by simp[ax],by simp[aK],ad⟩
theorem Mk(xs ys:List bD)(aa:eZ bD.sz xs<=8388608):aw 196 [.one (.J 6 (xs.map bD.e)),.one (.J 6 (ys.map bD.e)),.one (.cl 197 [])] [.one (B (decide (xs=ys)))]:=by
 have hk:=qw aa;by_cases ag:xs.length=ys.length
 ·have l:=kt (P:=prog) (c:=(aq f196 0)) xs ys ag (fun i=>wY (xs.map bD.e) (ys.map bD.e) 197 [] i) (X:=M1 false) dZ (cC 0)
   (fun i a b ae aj h=>akV ⟨bV (aP ae),bk,bm (aP ae),bl bD.e ae,bk,bm (aP aj),bl bD.e aj,by kernel_rfl,(by have k:=VZ a b (kQ aa (cS ae));rwa[h]at k),rfl,c3 (aP ae) hk,ad⟩)
   (fun i a b ae aj h=>akU ⟨bV (aP ae),bk,bm (aP ae),bl bD.e ae,bk,bm (aP aj),bl bD.e aj,by kernel_rfl,(by have k:=VZ a b (kQ aa (cS ae));rwa[h]at k),rfl,ad⟩)
   (akW ⟨dk,ad⟩)
  rcases l with⟨h,l⟩ | ⟨h,l⟩
  ·rw[bU h];exact akY ⟨fy ag,l,ad⟩
  rw[bY h];exact akX ⟨fy ag,l,ad⟩
 rw[bY (fun e=>ag (by rw[e]))];exact akT ⟨ku ag,ad⟩
theorem V0(x y:aQ)(aa:x.sz<=8388608):aw 195 [.agg x.e,.agg y.e] [.one (B (decide (x=y)))]:=by
 have ai:=aa;simp only[aQ.sz]at aa;by_cases bg:x.queue=y.queue
 case neg=>exact (bY (fun e=>bg (by rw[e]):¬x=y))▸alc ⟨(by have k:=ik x.queue y.queue (by omega);rwa[bY bg]at k),rfl,ad⟩
 by_cases h1:x.b3=y.b3
 case neg=>exact (bY (fun e=>h1 (by rw[e]):¬x=y))▸alb ⟨(by have k:=ik x.queue y.queue (by omega);rwa[bU bg]at k),rfl,(by have k:=ik x.b3 y.b3 (by omega);rwa[bY h1]at k),rfl,ad⟩
 by_cases U:x.bK=y.bK
 case neg=>exact (bY (fun e=>U (by rw[e]):¬x=y))▸ala ⟨(by have k:=ik x.queue y.queue (by omega);rwa[bU bg]at k),rfl,(by have k:=ik x.b3 y.b3 (by omega);rwa[bU h1]at k),rfl,(by have k:=ik x.bK y.bK (by omega);rwa[bY U]at k),rfl,ad⟩
 by_cases ax:x.cells=y.cells
 case neg=>exact (bY (fun e=>ax (by rw[e]):¬x=y))▸ak9 ⟨(by have k:=ik x.queue y.queue (by omega);rwa[bU bg]at k),rfl,(by have k:=ik x.b3 y.b3 (by omega);rwa[bU h1]at k),rfl,(by have k:=ik x.bK y.bK (by omega);rwa[bU U]at k),rfl,(by have k:=Co x.cells y.cells (by omega);rwa[bY ax]at k),rfl,ad⟩
 by_cases aK:x.bG=y.bG
 case neg=>exact (bY (fun e=>aK (by rw[e]):¬x=y))▸ak8 ⟨(by have k:=ik x.queue y.queue (by omega);rwa[bU bg]at k),rfl,(by have k:=ik x.b3 y.b3 (by omega);rwa[bU h1]at k),rfl,(by have k:=ik x.bK y.bK (by omega);rwa[bU U]at k),rfl,(by have k:=Co x.cells y.cells (by omega);rwa[bU ax]at k),rfl,(by have k:=BD x.bG y.bG (by omega);rwa[bY aK]at k),rfl,ad⟩
 by_cases a7:x.bN=y.bN
 case neg=>exact (bY (fun e=>a7 (by rw[e]):¬x=y))▸ak7 ⟨(by have k:=ik x.queue y.queue (by omega);rwa[bU bg]at k),rfl,(by have k:=ik x.b3 y.b3 (by omega);rwa[bU h1]at k),rfl,(by have k:=ik x.bK y.bK (by omega);rwa[bU U]at k),rfl,(by have k:=Co x.cells y.cells (by omega);rwa[bU ax]at k),rfl,(by have k:=BD x.bG y.bG (by omega);rwa[bU aK]at k),rfl,(by have k:=BF x.bN y.bN (by omega);rwa[bY a7]at k),rfl,ad⟩
 by_cases bp:x.bB=y.bB
 case neg=>exact (bY (fun e=>bp (by rw[e]):¬x=y))▸ak6 ⟨(by have k:=ik x.queue y.queue (by omega);rwa[bU bg]at k),rfl,(by have k:=ik x.b3 y.b3 (by omega);rwa[bU h1]at k),rfl,(by have k:=ik x.bK y.bK (by omega);rwa[bU U]at k),rfl,(by have k:=Co x.cells y.cells (by omega);rwa[bU ax]at k),rfl,(by have k:=BD x.bG y.bG (by omega);rwa[bU aK]at k),rfl,(by have k:=BF x.bN y.bN (by omega);rwa[bU a7]at k),rfl,(by have k:=BF x.bB y.bB (by omega);rwa[bY bp]at k),rfl,ad⟩
 have e:decide (x.b'=y.b')=decide (x=y):=by
  obtain⟨a0,ej,a2,a3,a4,a5,ZM,ZN⟩:=x;obtain⟨b9,eP,eX,jA,si,Hn,ZR,ZS⟩:=y;simp_all
 exact ak5 ⟨(by have k:=ik x.queue y.queue (by omega);rwa[bU bg]at k),rfl,(by have k:=ik x.b3 y.b3 (by omega);rwa[bU h1]at k),rfl,(by have k:=ik x.bK y.bK (by omega);rwa[bU U]at k),rfl,(by have k:=Co x.cells y.cells (by omega);rwa[bU ax]at k),rfl,(by have k:=BD x.bG y.bG (by omega);rwa[bU aK]at k),rfl,(by have k:=BF x.bN y.bN (by omega);rwa[bU a7]at k),rfl,(by have k:=BF x.bB y.bB (by omega);rwa[bU bp]at k),rfl,e▸amc x.b' y.b' (by omega),ad⟩
theorem F4(xs ys:List aQ)(aa:eZ aQ.sz xs<=8388608):aw 194 [.one (.J 8 (xs.map aQ.e)),.one (.J 8 (ys.map aQ.e)),.one (.cl 195 [])] [.one (B (decide (xs=ys)))]:=by
 have hk:=qw aa;by_cases ag:xs.length=ys.length
 ·have l:=kt (P:=prog) (c:=(aq f194 0)) xs ys ag (fun i=>xD (xs.map aQ.e) (ys.map aQ.e) 195 [] i) (X:=M0 false) dZ (cC 0)
   (fun i a b ae aj h=>alq ⟨bV (aP ae),bk,bm (aP ae),bl aQ.e ae,bk,bm (aP aj),bl aQ.e aj,by kernel_rfl,(by have k:=V0 a b (kQ aa (cS ae));rwa[h]at k),rfl,c3 (aP ae) hk,ad⟩)
   (fun i a b ae aj h=>alp ⟨bV (aP ae),bk,bm (aP ae),bl aQ.e ae,bk,bm (aP aj),bl aQ.e aj,by kernel_rfl,(by have k:=V0 a b (kQ aa (cS ae));rwa[h]at k),rfl,ad⟩)
   (alr ⟨dk,ad⟩)
  rcases l with⟨h,l⟩ | ⟨h,l⟩
  ·rw[bU h];exact akS ⟨fy ag,l,ad⟩
  rw[bY h];exact als ⟨fy ag,l,ad⟩
 rw[bY (fun e=>ag (by rw[e]))];exact alo ⟨ku ag,ad⟩
theorem amg(x y:a8)(aa:x.sz<=8388608):aw 57 [.agg x.e,.agg y.e] [.one (B (decide (x=y)))]:=by
 have ai:=aa;simp only[a8.sz]at aa;by_cases bg:x.aC=y.aC
 case neg=>exact (bY (fun e=>bg (by rw[e]):¬x=y))▸alT ⟨(by have k:=BH x.aC y.aC (by omega);rwa[bY bg]at k),rfl,ad⟩
 by_cases h1:x.ap=y.ap
 case neg=>exact (bY (fun e=>h1 (by rw[e]):¬x=y))▸alS ⟨(by have k:=BH x.aC y.aC (by omega);rwa[bU bg]at k),rfl,(by have k:=F4 x.ap y.ap (by omega);rwa[bY h1]at k),rfl,ad⟩
 by_cases U:x.bR=y.bR
 case neg=>exact (bY (fun e=>U (by rw[e]):¬x=y))▸alR ⟨(by have k:=BH x.aC y.aC (by omega);rwa[bU bg]at k),rfl,(by have k:=F4 x.ap y.ap (by omega);rwa[bU h1]at k),rfl,(by have k:=Mk x.bR y.bR (by omega);rwa[bY U]at k),rfl,ad⟩
 by_cases ax:x.tokens=y.tokens
 case neg=>exact (bY (fun e=>ax (by rw[e]):¬x=y))▸alQ ⟨(by have k:=BH x.aC y.aC (by omega);rwa[bU bg]at k),rfl,(by have k:=F4 x.ap y.ap (by omega);rwa[bU h1]at k),rfl,(by have k:=Mk x.bR y.bR (by omega);rwa[bU U]at k),rfl,(by have k:=VU x.tokens y.tokens (by omega);rwa[bY ax]at k),rfl,ad⟩
 have e:decide (x.news=y.news)=decide (x=y):=by
  obtain⟨a0,ej,a2,a3,a4⟩:=x;obtain⟨b9,eP,eX,jA,si⟩:=y;simp_all
 exact alP ⟨(by have k:=BH x.aC y.aC (by omega);rwa[bU bg]at k),rfl,(by have k:=F4 x.ap y.ap (by omega);rwa[bU h1]at k),rfl,(by have k:=Mk x.bR y.bR (by omega);rwa[bU U]at k),rfl,(by have k:=VU x.tokens y.tokens (by omega);rwa[bU ax]at k),rfl,e▸ame x.news y.news (by omega),ad⟩
