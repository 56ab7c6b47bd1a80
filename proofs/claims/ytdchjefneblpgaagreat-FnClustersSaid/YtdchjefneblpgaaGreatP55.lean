import Derived.Test.YtdchjefneblpgaaGreatP40
import Derived.Test.YtdchjefneblpgaaGreatP43
import Derived.Test.YtdchjefneblpgaaGreatGY
set_option linter.unusedVariables false
set_option linter.unusedSimpArgs false
namespace Go.Proofs.YtdchjefneblpgaaGreat
open Go.Sx Go.RowKit Go.Proofs.Tryz
def me(r:aB):Bool:=!eL r||r.op != 0||r.bq.di != 0
def l3(g:bS)(xs:List aB)(w e:Int):List aB:=xs.filter fun r=>r.bq.bh==e&&eh r.key g.ap==w
def l4(g:bS)(xs:List aB)(w:Int)(n:Nat):List aB:=(List.range n).flatMap fun e=>l3 g xs w (e:Nat)
def own(g:bS)(xs:List aB)(w:Int):List aB:=l4 g xs w 4
def jP(xs:List aB):aQ:=⟨[],[],xs,[],List.replicate 4 0,List.replicate 4 false,List.replicate 4 false,[]⟩
def iN(cap:Int):bD:=⟨gG cap 1 4,[],gG cap 1 4,0,0,0⟩
def vn:bT:=⟨false,0,0,false,false⟩
def mR(g:bS)(xs:List aB)(n:Nat):List aQ:=(List.range n).map fun w=>jP (own g xs (w:Nat))
def dh(g:bS)(xs:List aB):a8:=⟨g,mR g xs g.ap.toNat,List.replicate (g.ap.toNat*g.ap.toNat) (iN g.cap),List.replicate 4 vn,[]⟩
def MH:a8:=⟨⟨[],0,0⟩,[],[],[],[]⟩
def iE(g:bS)(xs:List aB):Bool:=et g&&decide (xs.length<=20)&&!xs.any me
def u6(g:bS)(xs:List aB):a8×Bool:=if iE g xs then (dh g xs,true) else (MH,false)
theorem xu(g:bS)(xs:List aB)(w:Int)(n:Nat):l4 g xs w (n+1)=l4 g xs w n++l3 g xs w (n:Nat):=by
 simp[l4,List.range_succ]
theorem UF(g:bS)(xs:List aB)(w:Int)(n:Nat):(l4 g xs w n).length<=n*xs.length:=by
 have h:=y' (fun e:Nat=>l3 g xs w (e:Nat)) xs.length (fun _=>r9 _ _) (List.range n);rwa[vA]at h
variable{xs:List aB}
theorem MI{g:bS}(ag:xs.length<=20)(w:Int):(own g xs w).length<=80:=by
 have:=UF g xs w 4;unfold own;omega
theorem UG{g:bS}(ag:xs.length<=20)(w:Int){n:Nat}(aR:n<4):(l4 g xs w n).length<=60:=by
 have:=UF g xs w n;have:n*xs.length<=3*20:=Nat.mul_le_mul (by omega) ag;omega
theorem UH(g:bS)(xs:List aB)(n:Nat):mR g xs (n+1)=mR g xs n++[jP (own g xs (n:Nat))]:=by
 simp[mR,List.range_succ]
theorem xv(g:bS)(xs:List aB)(n:Nat):(mR g xs n).length=n:=by simp[mR]
theorem UI{α:Type}{f:α->List D}{x:α}{m:Nat}:(List.replicate m x).map f++[f x]=(List.replicate (m+1) x).map f:=by
 rw[List.replicate_succ',gW];rfl
theorem aks(g:bS)(xs:List aB)(w e:Int):l3 g xs w e=(gH e xs).filter fun r=>eh r.key g.ap==w:=by
 unfold l3 gH;rw[List.filter_filter]
 congr 1
 funext r;rw[Bool.and_comm]
theorem UJ(cap:Int):aw 126 [.one (I cap)] [.agg (iN cap).e]:=aiY ⟨EK cap 1 4,ad⟩
theorem akt(cap:Int):aw 184 [.one (I cap)] [.agg (iN cap).e]:=aiZ ⟨avL cap 1 4,ad⟩
theorem UK(xs:List aB)(ag:xs.length<=1000):aw 124 [.one (.J 5 (xs.map aB.e))] [.agg (jP xs).e]:=
 ai0 ⟨nl (by simp;omega),mJ (by simp;omega),cM _ aB.flat _,by omega,by omega,by decide,by omega,by omega,by omega,by decide,by omega,by omega,by omega,by decide,by omega,ad⟩
theorem aku(ag:xs.length<=1000):aw 183 [.one (.J 5 (xs.map aB.e))] [.agg (jP xs).e]:=
 ai1 ⟨au4 xs (by omega),by omega,by omega,by decide,by omega,by omega,by omega,by decide,by omega,by omega,by omega,by decide,by omega,ad⟩
theorem akv(g:bS)(xs:List aB)(w:Int)(aR:1<=g.ap/\g.ap<=4)(ag:xs.length<=20):aw 125 [.agg g.e,.one (.J 5 (xs.map aB.e)),.one (I w)] [.one (.J 5 ((own g xs w).map aB.e))]:=by
 have kr:=fun (e:Nat) (he:e<4) (acc:List aB) (ae:acc.length<=100)=>e6 (P:=prog) (c:=(aq f125 1)) (cC 2) xs.length (fun i:Nat=>tg (g.nodes.map Node.e) g.ap g.cap (xs.map aB.e) w e i ((acc++(xs.take i).filter fun r=>r.bq.bh==(e:Int)&&eh r.key g.ap==w).map aB.e)) (fun i hi=>by
  obtain⟨r,aA⟩:=db hi;have bw:((xs.take i).filter fun r=>r.bq.bh==(e:Int)&&eh r.key g.ap==w).length<=20:=by
   have:=r9 (fun r:aB=>r.bq.bh==(e:Int)&&eh r.key g.ap==w) (xs.take i);have:=FJ i xs;omega
  rw[Bz _ aA];generalize (xs.take i).filter (fun r=>r.bq.bh==(e:Int)&&eh r.key g.ap==w)=e3 at*;have pv:=T2 r.key g.ap (by omega);cases h1:(r.bq.bh==(e:Int)) with
  | false=>
   rw[Bool.false_and,ba (by decide),lL];exact aiT ⟨bV hi,bk,bm hi,bl aB.e aA,h1,c3 hi (by omega),ad⟩
  | true=>
   cases U:(eh r.key g.ap==w) with
   | false=>
    rw[Bool.and_false,ba (by decide),lL];exact aiS ⟨bV hi,bk,bm hi,bl aB.e aA,h1,bk,bm hi,bl aB.e aA,pv,U,c3 hi (by omega),ad⟩
   | true=>
    rw[tA,bi rfl,<-tw,B'];exact ajr ⟨bV hi,bk,bm hi,bl aB.e aA,h1,bk,bm hi,bl aB.e aA,pv,U,bk,bm hi,bl aB.e aA,by simp;omega,by simp;omega,dU (aB.flat r),c3 hi (by omega),ad⟩) (aiU ⟨dk,ad⟩)
 have gh:=e6 (P:=prog) (c:=(aq f125 0)) (cC 0) 4 (fun n:Nat=>Ch (g.nodes.map Node.e) g.ap g.cap (xs.map aB.e) w n ((l4 g xs w n).map aB.e)) (fun n aR=>by
  have:=kr n aR (l4 g xs w n) (by have:=UG (g:=g) ag w aR;omega);rw[lh,List.take_zero,List.filter_nil,lL]at this;rw[xu];exact aiV ⟨bU (by omega),this,⟨by omega,by omega⟩,ad⟩) (aiW ⟨bY (by omega),ad⟩)
 exact aiX ⟨gh,ad⟩
theorem xw{g:bS}(h:iE g xs=false):u6 g xs=(MH,false):=by unfold u6;rw[h];rfl
theorem Ci{g:bS}(h:iE g xs=true):u6 g xs=(dh g xs,true):=by unfold u6;rw[h];rfl
theorem akw(g:bS)(xs:List aB)(ag:xs.length<=20):
  (xs.any me=false/\c' prog (aq f14 0) (qD (xs.map aB.e) 0 0 0 (g.nodes.map Node.e) g.ap g.cap) (.exit 0) (K' (xs.map aB.e) 0 0 (g.nodes.map Node.e) g.ap g.cap))\/
  (xs.any me=true/\c' prog (aq f14 0) (qD (xs.map aB.e) 0 0 0 (g.nodes.map Node.e) g.ap g.cap) .ret (zl false 0 0)):=by
 have l:=hM (P:=prog) (c:=(aq f14 0)) xs me (fun i=>qD (xs.map aB.e) i 0 0 (g.nodes.map Node.e) g.ap g.cap) (e1:=.ret) (e2:=.exit 0) (X:=fun _ _=>zl false 0 0) dZ (cC 0)
  (fun i a ae h=>by
   simp only[me,fB]at h;have hi:=aP ae;exact ajR ⟨bV hi,bk,bm hi,bl aB.e ae,tf a,h.1.1,bk,bm hi,bl aB.e ae,h.1.2,bk,bm hi,bl aB.e ae,h.2,c3 hi (by omega),ad⟩)
  (fun i a ae h=>by
   have hi:=aP ae;have hy:=tf a;unfold me at h;cases h1:(!eL a) with
   | true=>exact ajO ⟨bV hi,bk,bm hi,bl aB.e ae,hy,h1,ad⟩
   | false=>
    cases U:(a.op != 0) with
    | true=>exact ajP ⟨bV hi,bk,bm hi,bl aB.e ae,hy,h1,bk,bm hi,bl aB.e ae,U,ad⟩
    | false=>
     rw[h1,U,iU,iU]at h;exact ajQ ⟨bV hi,bk,bm hi,bl aB.e ae,hy,h1,bk,bm hi,bl aB.e ae,U,bk,bm hi,bl aB.e ae,h,ad⟩)
  (ai2 ⟨dk,ad⟩)
 rcases l with⟨_,_,h1,U⟩ | ⟨i,a,_,_,_,_,h1,U⟩
 ·exact .inl ⟨h1,U⟩
 exact .inr ⟨h1,U⟩
theorem akx(g:bS)(xs:List aB)(aR:1<=g.ap/\g.ap<=4)(ag:xs.length<=20):
  c' prog (aq f14 1) (zm (xs.map aB.e) 0 (g.nodes.map Node.e) g.ap g.cap [] [] ((List.replicate 4 vn).map bT.e) 0 0 (g.nodes.map Node.e) g.ap g.cap) (.exit 2)
   (La (g.nodes.map Node.e) g.ap g.cap ((mR g xs g.ap.toNat).map aQ.e) ((List.replicate (g.ap.toNat*g.ap.toNat) (iN g.cap)).map bD.e) ((List.replicate 4 vn).map bT.e) 0 0):=by
 obtain⟨n,hL⟩:∃n:Nat,g.ap=n:=⟨g.ap.toNat,by omega⟩
 have wb:n<=4:=by omega
 have ui:=fun (w:Nat) (m:Nat) (W T:List (List D)) (hm:m<=16)=>e6 (P:=prog) (c:=(aq f14 2)) (cC 4) n (fun k:Nat=>Cf (xs.map aB.e) w k (g.nodes.map Node.e) g.ap g.cap W ((List.replicate (m+k) (iN g.cap)).map bD.e) T 0 0 (g.nodes.map Node.e) g.ap g.cap) (fun k hk=>by
  rw[<-zW,<-UI];exact ai4 ⟨bU (by omega),UJ g.cap,by simp;omega,by simp;omega,⟨by omega,by omega⟩,ad⟩) (ai5 ⟨bY (by omega),ad⟩)
 have kr:=e6 (P:=prog) (c:=(aq f14 1)) (cC 2) n (fun w:Nat=>zm (xs.map aB.e) w (g.nodes.map Node.e) g.ap g.cap ((mR g xs w).map aQ.e) ((List.replicate (w*n) (iN g.cap)).map bD.e) ((List.replicate 4 vn).map bT.e) 0 0 (g.nodes.map Node.e) g.ap g.cap) (fun w hw=>by
  have qk:=xv g xs w;have hm:w*n<=3*4:=Nat.mul_le_mul (by omega) wb;rw[UH,B',show (w+1)*n=w*n+n by rw[fA,Nat.one_mul]];exact ai6 ⟨bU (by omega),akv g xs w aR ag,UK _ (by have:=MI (g:=g) ag (w:Nat);omega),by simp[qk];omega,by simp[qk];omega,ui w (w*n) _ _ (by omega),⟨by omega,by omega⟩,ad⟩) (ai7 ⟨bY (by omega),ad⟩)
 rw[show ((0:Nat)*n)=0 by omega]at kr;rw[hL,oX];rw[hL]at kr;exact kr
theorem UL(g:bS)(xs:List aB)(av:g.sz<=8388608):aw 14 [.agg g.e,.one (.J 5 (xs.map aB.e))] [.agg (u6 g xs).1.e,.one (B (u6 g xs).2)]:=by
 have ob:=ze g av;cases h1:et g with
 | false=>
  rw[h1]at ob;rw[xw (by unfold iE;rw[h1];rfl)];exact ajM ⟨ob,rfl,ad⟩
 | true=>
 rw[h1]at ob;by_cases ag:xs.length<=20
 case neg=>
  rw[xw (by unfold iE;rw[lN ag,Bool.and_false];rfl)];exact ajN ⟨ob,rfl,bU (by simp;omega),ad⟩
 rcases akw g xs ag with⟨U,l⟩ | ⟨U,l⟩
 ·rw[Ci (by unfold iE;rw[h1,U,iV ag];rfl)];exact ai8 ⟨ob,rfl,bY (by simp;omega),l,Vj g av,by omega,by omega,by decide,by omega,akx g xs (je h1) ag,ad⟩
 rw[xw (by unfold iE;rw[U];simp)];exact ai3 ⟨ob,rfl,bY (by simp;omega),l,ad⟩
theorem aky(g:bS)(xs:List aB)(ag:xs.length<=20):
  (xs.any me=false/\c' prog (aq f50 0) (qE (xs.map aB.e) 0 0 0 (g.nodes.map Node.e) g.ap g.cap) (.exit 0) (ME (xs.map aB.e) 0 0 (g.nodes.map Node.e) g.ap g.cap))\/
  (xs.any me=true/\c' prog (aq f50 0) (qE (xs.map aB.e) 0 0 0 (g.nodes.map Node.e) g.ap g.cap) .ret (zn false 0 0)):=by
 have l:=hM (P:=prog) (c:=(aq f50 0)) xs me (fun i=>qE (xs.map aB.e) i 0 0 (g.nodes.map Node.e) g.ap g.cap) (e1:=.ret) (e2:=.exit 0) (X:=fun _ _=>zn false 0 0) dZ (cC 0)
  (fun i a ae h=>by
   simp only[me,fB]at h;have hi:=aP ae;exact aje ⟨bV hi,bk,bm hi,bl aB.e ae,zc a,h.1.1,h.1.2,h.2,c3 hi (by omega),ad⟩)
  (fun i a ae h=>by
   have hi:=aP ae;have hy:=zc a;unfold me at h;cases h1:(!eL a) with
   | true=>exact ajb ⟨bV hi,bk,bm hi,bl aB.e ae,hy,h1,ad⟩
   | false=>
    cases U:(a.op != 0) with
    | true=>exact ajc ⟨bV hi,bk,bm hi,bl aB.e ae,hy,h1,U,ad⟩
    | false=>
     rw[h1,U,iU,iU]at h;exact ajd ⟨bV hi,bk,bm hi,bl aB.e ae,hy,h1,U,h,ad⟩)
  (ajf ⟨dk,ad⟩)
 rcases l with⟨_,_,h1,U⟩ | ⟨i,a,_,_,_,_,h1,U⟩
 ·exact .inl ⟨h1,U⟩
 exact .inr ⟨h1,U⟩
theorem akz(g:bS)(xs:List aB)(w:Nat)(W L T:List (List D))(aR:1<=g.ap/\g.ap<=4)(ag:xs.length<=20):
  c' prog (aq f50 2) (zp (xs.map aB.e) w 0 [] (g.nodes.map Node.e) g.ap g.cap W L T 0 0 (g.nodes.map Node.e) g.ap g.cap) (.exit 4)
   (MF (xs.map aB.e) w ((own g xs w).map aB.e) (g.nodes.map Node.e) g.ap g.cap W L T 0 0 (g.nodes.map Node.e) g.ap g.cap):=by
 have D1:=fun (e:Nat) (acc ys:List aB) (ae:acc.length<=100) (bu:ys.length<=20)=>e6 (P:=prog) (c:=(aq f50 3)) (cC 6) ys.length (fun i:Nat=>xt (xs.map aB.e) w e (ys.map aB.e) i ((acc++(ys.take i).filter fun r=>eh r.key g.ap==(w:Int)).map aB.e) (g.nodes.map Node.e) g.ap g.cap W L T 0 0 (g.nodes.map Node.e) g.ap g.cap) (fun i hi=>by
  obtain⟨r,aA⟩:=db hi;have bw:((ys.take i).filter fun r=>eh r.key g.ap==(w:Int)).length<=20:=by
   have:=r9 (fun r:aB=>eh r.key g.ap==(w:Int)) (ys.take i);have:=FJ i ys;omega
  rw[Bz _ aA];generalize (ys.take i).filter (fun r=>eh r.key g.ap==(w:Int))=e3 at*;have pv:=adD r.key g.ap (by omega);cases U:(eh r.key g.ap==(w:Int)) with
  | false=>
   rw[ba (by decide),lL];exact aji ⟨bV hi,bk,bm hi,bl aB.e aA,pv,U,c3 hi (by omega),ad⟩
  | true=>
   rw[bi rfl,<-tw,B'];exact ajh ⟨bV hi,bk,bm hi,bl aB.e aA,pv,U,by simp;omega,by simp;omega,dU (aB.flat r),c3 hi (by omega),ad⟩) (ajj ⟨dk,ad⟩)
 exact e6 (P:=prog) (c:=(aq f50 2)) (cC 4) 4 (fun n:Nat=>zp (xs.map aB.e) w n ((l4 g xs w n).map aB.e) (g.nodes.map Node.e) g.ap g.cap W L T 0 0 (g.nodes.map Node.e) g.ap g.cap) (fun n aR=>by
  have:=D1 n (l4 g xs w n) (gH (n:Int) xs) (by have:=UG (g:=g) ag (w:Int) aR;omega) (by have:=LW (n:Int) xs;omega);rw[lh,List.take_zero,List.filter_nil,lL,<-aks]at this;rw[xu];exact ajk ⟨bU (by omega),Sr xs (n:Int) (by omega),this,⟨by omega,by omega⟩,ad⟩) (ajl ⟨bY (by omega),ad⟩)
theorem akA(g:bS)(xs:List aB)(aR:1<=g.ap/\g.ap<=4)(ag:xs.length<=20):
  c' prog (aq f50 1) (zo (xs.map aB.e) 0 (g.nodes.map Node.e) g.ap g.cap [] [] ((List.replicate 4 vn).map bT.e) 0 0 (g.nodes.map Node.e) g.ap g.cap) (.exit 2)
   (MG (g.nodes.map Node.e) g.ap g.cap ((mR g xs g.ap.toNat).map aQ.e) ((List.replicate (g.ap.toNat*g.ap.toNat) (iN g.cap)).map bD.e) ((List.replicate 4 vn).map bT.e) 0 0):=by
 obtain⟨n,hL⟩:∃n:Nat,g.ap=n:=⟨g.ap.toNat,by omega⟩
 have wb:n<=4:=by omega
 have acA:=fun (w:Nat) (m:Nat) (W T:List (List D)) (hm:m<=16)=>e6 (P:=prog) (c:=(aq f50 4)) (cC 8) n (fun k:Nat=>Cg (xs.map aB.e) w k (g.nodes.map Node.e) g.ap g.cap W ((List.replicate (m+k) (iN g.cap)).map bD.e) T 0 0 (g.nodes.map Node.e) g.ap g.cap) (fun k hk=>by
  rw[<-zW,<-UI];exact ajm ⟨bU (by omega),akt g.cap,by simp;omega,by simp;omega,⟨by omega,by omega⟩,ad⟩) (ajn ⟨bY (by omega),ad⟩)
 have kr:=e6 (P:=prog) (c:=(aq f50 1)) (cC 2) n (fun w:Nat=>zo (xs.map aB.e) w (g.nodes.map Node.e) g.ap g.cap ((mR g xs w).map aQ.e) ((List.replicate (w*n) (iN g.cap)).map bD.e) ((List.replicate 4 vn).map bT.e) 0 0 (g.nodes.map Node.e) g.ap g.cap) (fun w hw=>by
  have qk:=xv g xs w;have hm:w*n<=3*4:=Nat.mul_le_mul (by omega) wb;rw[UH,B',show (w+1)*n=w*n+n by rw[fA,Nat.one_mul]];exact ajo ⟨bU (by omega),akz g xs w _ _ _ aR ag,aku (by have:=MI (g:=g) ag (w:Nat);omega),by simp[qk];omega,by simp[qk];omega,acA w (w*n) _ _ (by omega),⟨by omega,by omega⟩,ad⟩) (ajp ⟨bY (by omega),ad⟩)
 rw[show ((0:Nat)*n)=0 by omega]at kr;rw[hL,oX];rw[hL]at kr;exact kr
theorem UM(g:bS)(xs:List aB)(av:g.sz<=8388608):aw 50 [.agg g.e,.one (.J 5 (xs.map aB.e))] [.agg (u6 g xs).1.e,.one (B (u6 g xs).2)]:=by
 have ob:=Uh g av;cases h1:et g with
 | false=>
  rw[h1]at ob;rw[xw (by unfold iE;rw[h1];rfl)];exact ai9 ⟨ob,rfl,ad⟩
 | true=>
 rw[h1]at ob;by_cases ag:xs.length<=20
 case neg=>
  rw[xw (by unfold iE;rw[lN ag,Bool.and_false];rfl)];exact aja ⟨ob,rfl,bU (by simp;omega),ad⟩
 rcases aky g xs ag with⟨U,l⟩ | ⟨U,l⟩
 ·rw[Ci (by unfold iE;rw[h1,U,iV ag];rfl)];exact ajq ⟨ob,rfl,bY (by simp;omega),l,ajH g av,by omega,by omega,by decide,by omega,akA g xs (je h1) ag,ad⟩
 rw[xw (by unfold iE;rw[U];simp)];exact ajg ⟨ob,rfl,bY (by simp;omega),l,ad⟩
end Go.Proofs.YtdchjefneblpgaaGreat
namespace Go.Proofs.YtdchjefneblpgaaGreat
open Go.Sx Go.RowKit Go.Proofs.Tryz
inductive Step (c:a8) (p:cP):a8->Prop
 | work (x:aQ) (r:aB) (q:List aB) (hk:p.kind=1) (aa:cp c p.a=some x) (ai:x.b3=[]) (az:x.queue=r::q):
   Step c p (setW c p.a ⟨q,(d' c.aC x.cells r).2.1,x.bK,(d' c.aC x.cells r).1,x.bG,x.bN,(if cw c.aC r then x.bB.set r.bq.bh.toNat true else x.bB),x.b'⟩)
 | input (x:aQ) (r:aB) (t:List aB) (hk:p.kind=2) (aa:cp c p.a=some x) (ai:x.b3=[]) (az:x.queue=[]) (hi:x.bK=r::t):
   Step c p (setW c p.a ⟨[r],[],t,x.cells,x.bG,x.bN,x.bB,x.b'⟩)
 | eN (x:aQ) (r:aB) (t:List aB) (hk:p.kind=3) (aa:cp c p.a=some x) (ai:x.b3=r::t) (aU:eh r.key c.aC.ap=p.a):
   Step c p (setW c p.a (kept (iM x t) r))
 | send (x:aQ) (r:aB) (t:List aB) (l:bD) (hk:p.kind=3) (aa:cp c p.a=some x) (ai:x.b3=r::t) (aU:eh r.key c.aC.ap≠p.a)
   (ag:eB c (dR c.aC p.a (eh r.key c.aC.ap))=some l) (h:(eY l r).2=true):
   Step c p (setW (dd c (dR c.aC p.a (eh r.key c.aC.ap)) (eY l r).1) p.a (ma (iM x t) r.bq.bh))
 | take (l:bD) (x:aQ) (hk:p.kind=4) (ek:p.a≠p.b) (ag:eB c (dR c.aC p.a p.b)=some l) (aa:cp c p.b=some x) (h:(dV l).2.2=true):
   Step c p (setW (dd c (dR c.aC p.a p.b) (dV l).1) p.b (hN x (dV l).2.1))
 | o4 (l:bD) (hk:p.kind=5) (ek:p.a≠p.b) (ag:eB c (dR c.aC p.a p.b)=some l) (h:(gw l).2=true):
   Step c p (dd c (dR c.aC p.a p.b) (gw l).1)
 | token (t:bT) (x cR:aQ) (hk:p.kind=6) (he:ar p.a 0 3=true) (bg:cp c 0=some cR) (aE:eV cR p.a=false) (bH:g' c p.a=some t) (aa:cp c t.place=some x) (h:(ev c p.a t x).2=true):
   Step c p (ev c p.a t x).1
 | pc (k:Nat) (n:cb) (x:aQ) (hk:p.kind=7) (aR:c.news[k]?=some n) (aE:n.dest=p.a) (aa:cp c p.a=some x):
   Step c p (f' (setW c p.a (er x n)) (cutAt c.news k))
theorem UN(g:bS)(w:aQ):((fX g w).2=false/\(fX g w).1=w)\/
  ((fX g w).2=true/\∃r q,w.b3=[]/\w.queue=r::q/\(fX g w).1=⟨q,(d' g w.cells r).2.1,w.bK,(d' g w.cells r).1,w.bG,w.bN,(if cw g r then w.bB.set r.bq.bh.toNat true else w.bB),w.b'⟩):=by
 unfold fX;split
 ·split
  ·rename_i r q ai az;exact .inr ⟨rfl,r,q,ai,az,rfl⟩
  exact .inl ⟨rfl,rfl⟩
 exact .inl ⟨rfl,rfl⟩
theorem UO(g:bS)(w:aQ):((fY g w).2=false/\(fY g w).1=w)\/
  ((fY g w).2=true/\∃r t,w.b3=[]/\w.queue=[]/\w.bK=r::t/\(fY g w).1=⟨[r],[],t,w.cells,w.bG,w.bN,w.bB,w.b'⟩):=by
 unfold fY;split
 ·split
  ·rename_i r t ai az hi;exact .inr ⟨rfl,r,t,ai,az,hi,rfl⟩
  exact .inl ⟨rfl,rfl⟩
 exact .inl ⟨rfl,rfl⟩
theorem Cj{l:bD}{r:aB}(h:(eY l r).2=true):jM l=true/\l.eM≠0/\l.eu<1000000000/\(eY l r).1=⟨l.cap,l.queue++[r],l.eM-1,l.back,l.eu+1,l.dv⟩:=by
 unfold eY at h ⊢;split
 ·rename_i ak;simp only[cm,bne_iff_ne,hc,cr]at ak;exact⟨ak.1.1.1,ak.1.2,ak.2,rfl⟩
 rename_i ak;rw[ba ak]at h;cases h
theorem xx{l:bD}(h:(dV l).2.2=true):jM l=true/\∃r q,l.queue=r::q/\(dV l).2.1=r/\(dV l).1=⟨l.cap,q,l.eM,l.back+1,l.eu,l.dv+1⟩:=by
 unfold dV at h ⊢;split
 ·rename_i ak;rw[bi ak]at h;refine⟨ak,?_⟩;cases az:l.queue with
  | nil=>rw[az]at h;cases h
  | cons r q=>exact⟨r,q,rfl,rfl,rfl⟩
 rename_i ak;rw[ba ak]at h;cases h
theorem xy(l:bD):((gw l).2=false/\(gw l).1=l)\/((gw l).2=true/\jM l=true/\l.back≠0/\(gw l).1=⟨l.cap,l.queue,l.eM+1,l.back-1,l.eu,l.dv⟩):=by
 unfold gw;split
 ·rename_i ak;simp only[cm,bne_iff_ne,hc]at ak;exact .inr ⟨rfl,ak.1,ak.2,rfl⟩
 exact .inl ⟨rfl,rfl⟩
theorem oH (c : a8) (e : Int) (t : bT) (x : aQ) : ((ev c e t x).2 = false /\ (ev c e t x).1 = c) \/ ((ev c e t x).2 = true /\ lc x e = true /\
    ((t.going = false /\ (ev c e t x).1 = setW (cY c e ⟨true, (c.ap.length : Int) - 1, 0, false, x.bB.getD e.toNat false⟩) t.place (eC x e)) \/
     (t.going = true /\ 0 < t.place /\ (ev c e t x).1 = setW (cY c e ⟨true, t.place - 1, t.sum + x.bG.getD e.toNat 0, t.bN || x.bN.getD e.toNat false, t.cw || x.bB.getD e.toNat false⟩) t.place (eC x e)) \/
     (t.going = true /\ ¬ 0 < t.place /\ (t.bN = false /\ x.bN.getD e.toNat false = false /\ t.sum + x.bG.getD e.toNat 0 = 0) /\
       (ev c e t x).1 = f' (setW (cY c e ⟨false, t.place, t.sum, t.bN, t.cw⟩) 0 (told x e (t.cw || x.bB.getD e.toNat false))) (c.news ++ hn (c.ap.length - 1) e (t.cw || x.bB.getD e.toNat false))) \/
     (t.going = true /\ ¬ 0 < t.place /\ ¬ (t.bN = false /\ x.bN.getD e.toNat false = false /\ t.sum + x.bG.getD e.toNat 0 = 0) /\ (ev c e t x).1 = cY c e ⟨false, t.place, t.sum, t.bN, t.cw⟩))) := by
  unfold ev;split
  case isFalse => exact .inl ⟨rfl, rfl⟩
  rename_i hp;cases av : t.going with
  | false => exact .inr ⟨rfl, hp, .inl ⟨rfl, rfl⟩⟩
  | true =>
    rw [ba (by simp)];split
    · rename_i bg;split
      · exact .inr ⟨rfl, hp, .inr (.inl ⟨rfl, bg, rfl⟩)⟩
      exact .inl ⟨rfl, rfl⟩
    rename_i bg;split
    · rename_i ak;simp only [cm, fP, ed] at ak;exact .inr ⟨rfl, hp, .inr (.inr (.inl ⟨rfl, bg, ⟨ak.1.1, ak.1.2, ak.2⟩, rfl⟩))⟩
    rename_i ak;refine .inr ⟨rfl, hp, .inr (.inr (.inr ⟨rfl, bg, fun aR => ak ?_, rfl⟩))⟩;simp only [cm, fP, ed];exact ⟨⟨aR.1, aR.2.1⟩, aR.2.2⟩
theorem xz(c:a8)(p:cP):((dA c p).2=false/\(dA c p).1=c)\/(cK c=true/\(dA c p).2=true/\Step c p (dA c p).1):=by
 unfold dA;split
 ·rename_i hk;unfold mb;split
  case isFalse=>exact .inl ⟨rfl,rfl⟩
  rename_i bP;cases aa:cp c p.a with
  | none=>exact .inl ⟨rfl,rfl⟩
  | some x=>
   rcases UN c.aC x with⟨h1,U⟩ | ⟨h1,r,q,ai,az,U⟩
   ·exact .inl ⟨h1,by dsimp only;rw[U];exact u2 aa⟩
   refine .inr ⟨bP,h1,?_⟩;dsimp only;rw[U];exact .work x r q hk aa ai az
 split
 ·rename_i hk;unfold mc;split
  case isFalse=>exact .inl ⟨rfl,rfl⟩
  rename_i bP;cases aa:cp c p.a with
  | none=>exact .inl ⟨rfl,rfl⟩
  | some x=>
   rcases UO c.aC x with⟨h1,U⟩ | ⟨h1,r,t,ai,az,hi,U⟩
   ·exact .inl ⟨h1,by dsimp only;rw[U];exact u2 aa⟩
   refine .inr ⟨bP,h1,?_⟩;dsimp only;rw[U];exact .input x r t hk aa ai az hi
 split
 ·rename_i hk;unfold lG;split
  case isFalse=>exact .inl ⟨rfl,rfl⟩
  rename_i bP;cases aa:cp c p.a with
  | none=>exact .inl ⟨rfl,rfl⟩
  | some x=>
   dsimp only;cases ai:x.b3 with
   | nil=>exact .inl ⟨rfl,rfl⟩
   | cons r t=>
    dsimp only;unfold qz;split
    ·rename_i aU;exact .inr ⟨bP,rfl,.eN x r t hk aa ai aU⟩
    rename_i aU;cases ag:eB c (dR c.aC p.a (eh r.key c.aC.ap)) with
    | none=>exact .inl ⟨rfl,rfl⟩
    | some l=>
     dsimp only;split
     ·rename_i h;exact .inr ⟨bP,rfl,.send x r t l hk aa ai aU ag h⟩
     exact .inl ⟨rfl,rfl⟩
 split
 ·rename_i hk;unfold lH;split
  case isFalse=>exact .inl ⟨rfl,rfl⟩
  rename_i ak;simp only[cm,bne_iff_ne,hc]at ak;cases ag:eB c (dR c.aC p.a p.b) with
  | none=>exact .inl ⟨rfl,rfl⟩
  | some l=>
   cases aa:cp c p.b with
   | none=>exact .inl ⟨rfl,rfl⟩
   | some x=>
    dsimp only;split
    ·rename_i h;exact .inr ⟨ak.1,rfl,.take l x hk ak.2 ag aa h⟩
    exact .inl ⟨rfl,rfl⟩
 split
 ·rename_i hk;unfold lf;split
  case isFalse=>exact .inl ⟨rfl,rfl⟩
  rename_i ak;simp only[cm,bne_iff_ne,hc]at ak;cases ag:eB c (dR c.aC p.a p.b) with
  | none=>exact .inl ⟨rfl,rfl⟩
  | some l=>
   rcases xy l with⟨h1,U⟩ | ⟨h1,_⟩
   ·exact .inl ⟨h1,by dsimp only;rw[U];exact agZ ag⟩
   exact .inr ⟨ak.1,h1,.o4 l hk ak.2 ag h1⟩
 split
 ·rename_i hk;unfold kV;split
  case isFalse=>exact .inl ⟨rfl,rfl⟩
  rename_i ak;simp only[cm]at ak;cases bg:cp c 0 with
  | none=>exact .inl ⟨rfl,rfl⟩
  | some cR=>
   cases bH:g' c p.a with
   | none=>exact .inl ⟨rfl,rfl⟩
   | some t=>
    dsimp only;cases aE:eV cR p.a with
    | true=>exact .inl ⟨rfl,rfl⟩
    | false=>
     rw[ba (by simp)];cases aa:cp c t.place with
     | none=>exact .inl ⟨rfl,rfl⟩
     | some x=>
      dsimp only;rcases oH c p.a t x with h1 | ⟨h1,_⟩
      ·exact .inl h1
      exact .inr ⟨ak.1,h1,.token t x cR hk ak.2 bg aE bH aa h1⟩
 split
 ·rename_i hk;unfold lI;cases bw:c.news.findIdx? (fun n=>n.dest==p.a) with
  | none=>exact .inl ⟨rfl,rfl⟩
  | some k=>
   dsimp only;split
   case isFalse=>exact .inl ⟨rfl,rfl⟩
   rename_i bP;cases aR:c.news[k]? with
   | none=>exact .inl ⟨rfl,rfl⟩
   | some n=>
    cases aa:cp c p.a with
    | none=>exact .inl ⟨rfl,rfl⟩
    | some x=>
     dsimp only;have aE:n.dest=p.a:=by
      have:=zN.1 bw;obtain⟨ag,hp,_⟩:=this;rw[h4 ag]at aR;rw[eE aR]at hp;simpa using hp
     exact .inr ⟨bP,rfl,.pc k n x hk aR aE aa⟩
 exact .inl ⟨rfl,rfl⟩
theorem akB{c:a8}{p:cP}(h:(dA c p).2=false):(dA c p).1=c:=by
 rcases xz c p with⟨_,U⟩ | ⟨_,U,_⟩
 ·exact U
 rw[h]at U;cases U
end Go.Proofs.YtdchjefneblpgaaGreat
namespace Go.Proofs.YtdchjefneblpgaaGreat
open Go.Sx Go.RowKit Go.Sort Go.Proofs.Tryz
def c7{α:Type}(f:α->Nat)(xs:List α):Nat:=(xs.map f).sum
theorem FN{α:Type}{f:α->Nat}{y:α}(x:α){xs:List α}{i:Nat}(h:xs[i]?=some y):c7 f (xs.set i x)+f y=c7 f xs+f x:=by
 have:=xp (sz:=f) x h;simp only[eZ,e8]at this;unfold c7;omega
end Go.Proofs.YtdchjefneblpgaaGreat
namespace Go.Proofs.YtdchjefneblpgaaGreat
open Go.Sx Go.RowKit Go.Proofs.Tryz
def fu(e:Int)(x:aQ):Int:=x.bG.getD e.toNat 0
def fR(e:Int)(x:aQ):Bool:=x.bN.getD e.toNat false
def j4(e:Int)(x:aQ):Bool:=x.bB.getD e.toNat false
def gD(e:Int)(c:a8)(k:Nat):Int:=((c.ap.take k).map (fu e)).sum
def iC(e:Int)(c:a8):Nat:=c7 (nS e) c.bR
def quiet(e:Int)(c:a8):Prop:=(∀x∈c.ap,lc x e=true)/\iC e c=0
def Good(e:Int)(c:a8)(t:bT):Prop:=
 ((∀(i:Nat) x,t.place<i->c.ap[i]?=some x->lc x e=true/\(j4 e x=true->t.cw=true))/\gD e c (t.place+1).toNat+t.sum=iC e c)\/
 0<gD e c (t.place+1).toNat+t.sum\/(∃(i:Nat) (x:aQ),(i:Int)<=t.place/\c.ap[i]?=some x/\fR e x=true)\/t.bN=true
structure Inv (e:Int) (c:a8):Prop where
 total:gD e c c.ap.length=iC e c
 token:∀t,g' c e=some t->t.going=true->Good e c t
 zC:(mT c e||mm c e)=true->quiet e c
theorem zq{α:Type}(f:α->Int){y:α}(x:α):∀{xs:List α} {i k:Nat},xs[i]?=some y->(((xs.set i x).take k).map f).sum=((xs.take k).map f).sum+(if i<k then f x-f y else 0)
 | [],_,_,h=>by simp at h
 | a::xs,0,0,h=>by simp
 | a::xs,0,k+1,h=>by
  obtain rfl:a=y:=by simpa using h
  simp only[List.set_cons_zero,List.take_succ_cons,jW,nf];rw[bi (by omega)];omega
 | a::xs,i+1,0,h=>by simp
 | a::xs,i+1,k+1,h=>by
  have dI:=zq f x (xs:=xs) (i:=i) (k:=k) (by simpa using h);simp only[List.set_cons_succ,List.take_succ_cons,jW,nf,dI];by_cases hk:i<k
  ·rw[bi hk,bi (by omega)];omega
  rw[ba hk,ba (by omega)];omega
variable{i j:Nat}
theorem u7{α:Type}{xs:List α}{y z:α}(h:(xs.set i y)[j]?=some z):(j=i/\z=y)\/(j≠i/\xs[j]?=some z):=by
 rw[iT]at h;split at h
 ·rename_i nD;split at h
  ·exact .inl ⟨nD.symm,(eE h).symm⟩
  cases h
 exact .inr ⟨fun q=>‹¬i=j› q.symm,h⟩
theorem oI{α:Type}{xs:List α}{x y:α}(h:xs[i]?=some x):(xs.set i y)[i]?=some y:=by
 rw[iT,bi rfl,bi (aP h)]
theorem Ck{α:Type}{xs:List α}{y z:α}(h:xs[j]?=some z)(bd:j≠i):(xs.set i y)[j]?=some z:=by
 rw[iT,ba (fun q=>bd q.symm),h]
theorem Cl{α:Type}{xs:List α}{x:α}(h:xs[i]?=some x):xs.set i x=xs:=by
 have ag:=aP h;rw[h4 ag]at h;rw[<-eE h];exact List.set_getElem_self ag
variable{e:Int}{c:a8}{x:aQ}
theorem Inv.worker{i:Int}{d:a8}{y:aQ}(h:Inv e c)(aa:cp c i=some x)(hw:d.ap=c.ap.set i.toNat y)(bH:g' d e=g' c e)
  (ab9:(mT d e||mm d e)=true->(mT c e||mm c e)=true)
  (ak:(fu e y=fu e x/\(fR e x=true->fR e y=true)/\iC e d=iC e c/\(lc x e=true->lc y e=true/\j4 e y=j4 e x))\/
   (lc x e=false/\fu e y=fu e x+1/\(fR e x=true->fR e y=true)/\iC e d=iC e c+1)\/
   (iC e c=iC e d+1/\fu e y=fu e x-1/\fR e y=true)):Inv e d:=by
 obtain⟨i0,i1,i2⟩:=eJ aa;have hlen:d.ap.length=c.ap.length:=by rw[hw,e8]
 have yq:∀k,gD e d k=gD e c k+(if i.toNat<k then fu e y-fu e x else 0):=fun k=>by
  unfold gD;rw[hw];exact zq (fu e) y i2
 have qe:x∈c.ap:=cS i2;refine⟨?_,fun t gX av=>?_,fun gX=>?_⟩
 ·rw[yq,hlen,bi i1,h.total];rcases ak with⟨h1,_,ax,_⟩ | ⟨_,U,_,aK⟩ | ⟨h1,U,_⟩<;>omega
 ·have lu:=h.token t (bH▸gX) av;unfold Good at lu ⊢;rw[yq];have PI:(fR e x=true->fR e y=true)->(∃(j:Nat) (z:aQ),(j:Int)<=t.place/\c.ap[j]?=some z/\fR e z=true)->∃(j:Nat) (z:aQ),(j:Int)<=t.place/\d.ap[j]?=some z/\fR e z=true:=by
   rintro aj ⟨j,z,g1,g2,g3⟩;by_cases bd:j=i.toNat
   ·subst bd;rw[i2]at g2;cases g2;exact⟨_,y,g1,by rw[hw];exact oI i2,aj g3⟩
   exact⟨j,z,g1,by rw[hw];exact Ck g2 bd,g3⟩
  rcases ak with⟨h1,U,ax,aK⟩ | ⟨h1,U,ax,aK⟩ | ⟨h1,U,ax⟩
  ·rcases lu with⟨fc,Dy⟩ | g | g | g
   ·refine .inl ⟨fun j z bd a6=>?_,?_⟩
    ·rw[hw]at a6;rcases u7 a6 with⟨rfl,rfl⟩ | ⟨_,a6⟩
     ·have:=fc _ x bd i2;obtain⟨cG,cg⟩:=aK this.1;exact⟨cG,fun gd=>this.2 (cg▸gd)⟩
     exact fc j z bd a6
    ·split<;>omega
   ·exact .inr (.inl (by split<;>omega))
   ·exact .inr (.inr (.inl (PI U g)))
   exact .inr (.inr (.inr g))
  ·rcases lu with⟨fc,Dy⟩ | g | g | g
   ·have hle:¬t.place<i.toNat:=fun bL=>by
     have:=(fc _ x bL i2).1;rw[h1]at this;cases this
    refine .inl ⟨fun j z bd a6=>?_,?_⟩
    ·rw[hw]at a6;rcases u7 a6 with⟨rfl,rfl⟩ | ⟨_,a6⟩
     ·exact absurd bd hle
     exact fc j z bd a6
    rw[bi (by omega)];omega
   ·exact .inr (.inl (by split<;>omega))
   ·exact .inr (.inr (.inl (PI ax g)))
   exact .inr (.inr (.inr g))
  by_cases hle:(i.toNat:Int)<=t.place
  ·exact .inr (.inr (.inl ⟨i.toNat,y,hle,by rw[hw];exact oI i2,ax⟩))
  rw[ba (by omega)];rcases lu with⟨_,Dy⟩ | g | ⟨j,z,g1,g2,g3⟩ | g
  ·exact .inr (.inl (by omega))
  ·exact .inr (.inl (by omega))
  ·exact .inr (.inr (.inl ⟨j,z,g1,by rw[hw];exact Ck g2 (by omega),g3⟩))
  exact .inr (.inr (.inr g))
 obtain⟨q1,k9⟩:=h.zC (ab9 gX);have hp:=q1 x qe;rcases ak with⟨_,_,ax,aK⟩ | ⟨h1,_⟩ | ⟨h1,_⟩
 ·refine⟨fun z a6=>?_,by omega⟩;rw[hw]at a6;rcases hb a6 with a6 | rfl
  ·exact q1 z a6
  exact (aK hp).1
 ·rw[hp]at h1;cases h1
 omega
theorem oJ:lc x e=true<->(∀r∈x.bK,e<r.bq.bh)/\(∀r∈x.queue,r.bq.bh≠e)/\∀r∈x.b3,r.bq.bh≠e:=by
 simp only[lc,B6,TK,gH,cm,fP,fh,cr,ed];rw[show ∀a b:Nat,a+b=0<->a=0/\b=0 from fun a b=>by omega,List.length_eq_zero_iff,List.length_eq_zero_iff,List.filter_eq_nil_iff,List.filter_eq_nil_iff];simp only[ed,Int.not_le]
variable{g:bS}
theorem akC{cs:List Cell}{r:aB}:∀q∈(d' g cs r).2.1,q.bq.bh=r.bq.bh:=by
 intro q az;unfold d' at az;split at az
 ·rename_i n _;unfold fo at az;have ai:∀s:hG,s.bh=r.bq.bh->∀k v,q∈fv n s k v->q.bq.bh=r.bq.bh:=by
   intro s DV k v hm;simp only[fv,jX]at hm;obtain⟨o,_,rfl⟩:=hm;exact DV
  have aR:(gJ r.bq).1.bh=r.bq.bh:=by
   unfold gJ;split<;>rfl
  grind
 cases az
theorem u9{α:Type}{xs:List α}{a d:α}(h:i≠j):(xs.set i a).getD j d=xs.getD j d:=by
 simp only[iv,iT,ba h]
theorem Cm{α:Type}{xs:List α}{a d:α}(h:i<xs.length):(xs.set i a).getD i d=a:=by
 simp[iv,h]
theorem MJ{i e:Int}{l m:bD}(h:eB c i=some l):iC e (dd c i m)+nS e l=iC e c+nS e m:=by
 unfold iC;exact FN m (ij h).2.2
theorem akD(e cap:Int)(q:List aB)(r:aB)(a b s g:Int)(l:bD)(ag:l.queue=q):nS e ⟨cap,q++[r],a,b,s,g⟩=nS e l+(if r.bq.bh=e then 1 else 0):=by
 simp only[nS,gH,List.filter_append,jy,ag,List.filter_cons,List.filter_nil,ed];split<;>rfl
theorem akE(e:Int)(r:aB)(q:List aB)(l:bD)(ag:l.queue=r::q)(cap a b s g:Int):nS e l=nS e ⟨cap,q,a,b,s,g⟩+(if r.bq.bh=e then 1 else 0):=by
 simp only[nS,gH,ag,List.filter_cons,ed];split<;>simp
theorem qF{c d:a8}{i:Int}{y:aQ}(aa:cp c i=some x)(aE:d.ap=c.ap.set i.toNat y)(h:eV y e=true->eV x e=true\/mm c e=true)(aR:mm d e=true->mm c e=true):
  (mT d e||mm d e)=true->(mT c e||mm c e)=true:=by
 simp only[lM];rintro (hw | hw)
 ·unfold mT at hw ⊢;rw[aE,nd]at hw;obtain⟨z,a6,h'⟩:=hw;rcases hb a6 with a6 | rfl
  ·exact .inl (nd.2 ⟨z,a6,h'⟩)
  rcases h h' with h1 | h1
  ·exact .inl (nd.2 ⟨x,cS (eJ aa).2.2,h1⟩)
  exact .inr h1
 exact .inr (aR hw)
theorem xA{a b:Int}(ae:0<=a)(aj:0<=b)(h:a≠b):a.toNat≠b.toNat:=by omega
variable{f:Int}
theorem UP{d:Int}(he:0<=e/\e<=3)(bw:0<=f/\f<=3){xs:List Int}(ag:xs.length=4):(k6 xs f d).getD e.toNat 0=xs.getD e.toNat 0+(if f=e then d else 0):=by
 unfold k6;by_cases h:f=e
 ·subst h;rw[Cm (by omega),bi rfl]
 rw[u9 (xA bw.1 he.1 h),ba h];omega
theorem FO{w:aQ}(h:e7 g w=true):w.bG.length=4/\w.bN.length=4/\w.bB.length=4:=by
 obtain⟨_,_,_,_,a7,bp,b6,_⟩:=hZ.1 h;exact⟨a7,bp,b6⟩
theorem MK{xs:List aB}(h:fW g xs=true){r:aB}(aA:r∈xs):0<=r.bq.bh/\r.bq.bh<=3:=by
 simp only[fW,fP,fh]at h;exact u3 (g:=g) (by simpa using h r aA)
theorem u'{b:Bool}:eV (told x f b) e=(eV x e||f==e):=by
 simp[eV,told]
theorem FP{n:cb}:eV (er x n) e=(eV x e||n.bh==e):=by
 unfold er;split
 ·rename_i h;by_cases he:n.bh=e
  ·subst he;rw[h];rfl
  have:(n.bh==e)=false:=by simpa using he
  rw[this,Bool.or_false]
 exact u'
theorem akF{n:cb}:lc (er x n) e=lc x e:=by
 unfold er;split<;>rfl
theorem FQ{x:aQ}{n:cb}{e:Int}:fu e (er x n)=fu e x/\fR e (er x n)=fR e x/\j4 e (er x n)=j4 e x:=by
 unfold er;split<;>exact⟨rfl,rfl,rfl⟩
theorem FR{k:Nat}(h:c.ap[k]?=some x):gD e c (k+1)=gD e c k+fu e x:=by
 simp[gD,r',h]
variable{t:bT}
theorem va(he:0<=e)(bw:0<=f)(h:f≠e):(if 0<=e then (c.tokens.set f.toNat t)[e.toNat]? else none)=g' c e:=by
 unfold g';rw[iT,ba (xA bw he h)]
theorem UQ{n:Nat}{b:Bool}(h:f≠e):((c.news++hn n f b).any fun x=>x.bh==e)=mm c e:=by
 rw[List.any_append];have:((hn n f b).any fun x=>x.bh==e)=false:=by
  rw[fh];intro x aa;simp only[hn,jX]at aa;obtain⟨_,_,rfl⟩:=aa;simpa using h
 rw[this,Bool.or_false];rfl
theorem Inv.ax3(h:Inv e c)(he:0<=e)(bw:0<=f)(ct:f≠e)(aa:cp c t.place=some x):Inv e (ev c f t x).1:=by
 have Cv:fR e (eC x f)=fR e x:=by
  unfold fR eC;exact u9 (xA bw he ct)
 rcases oH c f t x with⟨_,U⟩ | ⟨_,_,h1⟩
 ·rw[U];exact h
 rcases h1 with⟨_,U⟩ | ⟨_,_,U⟩ | ⟨_,bg,_,U⟩ | ⟨_,_,_,U⟩
 ·rw[U];exact h.worker aa rfl (va he bw ct) (qF aa rfl (fun k=>.inl k) id) (.inl ⟨rfl,fun k=>Cv.trans k,rfl,fun k=>⟨k,rfl⟩⟩)
 ·rw[U];exact h.worker aa rfl (va he bw ct) (qF aa rfl (fun k=>.inl k) id) (.inl ⟨rfl,fun k=>Cv.trans k,rfl,fun k=>⟨k,rfl⟩⟩)
 ·rw[U];have a6:t.place=0:=by have:=(eJ aa).1;omega
  rw[a6]at aa;refine h.worker aa rfl (va he bw ct) (qF aa rfl (fun k=>?_) (fun k=>(UQ ct).symm.trans k)) (.inl ⟨rfl,id,rfl,fun k=>⟨k,rfl⟩⟩);rw[u']at k;have:(f==e)=false:=by simpa using ct
  rw[this,Bool.or_false]at k;exact .inl k
 rw[U];exact h.worker (y:=x) aa (Cl (eJ aa).2.2).symm (va he bw ct) (qF aa (Cl (eJ aa).2.2).symm (fun k=>.inl k) id) (.inl ⟨rfl,id,rfl,fun k=>⟨k,rfl⟩⟩)
theorem akG{n:Int}(h:0<=n):(n+1).toNat=n.toNat+1:=by omega
theorem akH{n:Int}:(n-1+1).toNat=n.toNat:=by rw[Int.sub_add_cancel]
theorem Cn{u:bT}(h:g' c e=some t):(if 0<=e then (c.tokens.set e.toNat u)[e.toNat]? else none)=some u:=by
 obtain⟨bg,_,U⟩:=xn h;rw[bi bg];exact oI U
theorem Inv.over(h:Inv e c)(bH:g' c e=some t)(av:t.going=true)(bg:¬0<t.place)(aa:cp c t.place=some x)(hp:lc x e=true)
  (aj:t.bN=false/\x.bN.getD e.toNat false=false/\t.sum+x.bG.getD e.toNat 0=0):quiet e c/\((t.cw||j4 e x)=false->∀z∈c.ap,j4 e z=false):=by
 have a6:t.place=0:=by have:=(eJ aa).1;omega
 obtain⟨_,_,ho⟩:=eJ aa;rw[a6]at ho;have ai:gD e c 1=fu e x:=by rw[FR (k:=0) ho];simp[gD]
 have lu:=h.token t bH av;unfold Good at lu;rw[a6]at lu;change ((_/\gD e c 1+t.sum=_)\/0<gD e c 1+t.sum\/_) at lu;rw[ai]at lu;have PM:t.sum+fu e x=0:=aj.2.2;rcases lu with⟨fc,Dy⟩ | g | ⟨i,z,g1,g2,g3⟩ | g
 ·have key:∀z∈c.ap,lc z e=true/\(j4 e z=true->(t.cw||j4 e x)=true):=by
   intro z a6;obtain⟨i,hi⟩:=List.getElem?_of_mem a6;by_cases h1:i=0
   ·subst h1;rw[show c.ap[0]?=some x from ho]at hi;cases hi;exact⟨hp,fun k=>by rw[k,Bool.or_true]⟩
   obtain⟨cG,cg⟩:=fc i z (by omega) hi;exact⟨cG,fun k=>by rw[cg k,Bool.true_or]⟩
  refine⟨⟨fun z a6=>(key z a6).1,by omega⟩,fun gd z a6=>?_⟩;cases aaK:j4 e z with
  | false=>rfl
  | true=>rw[(key z a6).2 aaK]at gd;cases gd
 ·omega
 ·have:i=0:=by omega
  subst this;rw[show c.ap[0]?=some x from ho]at g2;cases g2;rw[show fR e x=false from aj.2.1]at g3;cases g3
 rw[aj.1]at g;cases g
theorem Inv.ax4(h:Inv e c)(bP:cK c=true)(bH:g' c e=some t)(aa:cp c t.place=some x):Inv e (ev c e t x).1:=by
 obtain⟨i0,i1,i2⟩:=eJ aa;obtain⟨_,_,DS,_⟩:=rW.1 (zh bP bH);rcases oH c e t x with⟨_,U⟩ | ⟨_,hp,h1⟩
 ·rw[U];exact h
 have whole:∀u:bT,(u.going=true->Good e (setW (cY c e u) t.place (eC x e)) u)->Inv e (setW (cY c e u) t.place (eC x e)):=by
  intro u hu;have yq:∀k,gD e (setW (cY c e u) t.place (eC x e)) k=gD e c k:=fun k=>by
   have:=zq (fu e) (eC x e) (k:=k) i2;rw[show fu e (eC x e)=fu e x from rfl,Int.sub_self,ite_self,Int.add_zero]at this;exact this
  refine⟨?_,fun dt gX av=>?_,fun gX=>?_⟩
  ·rw[yq,show (setW (cY c e u) t.place (eC x e)).ap.length=c.ap.length from e8];exact h.total
  ·rw[show g' (setW (cY c e u) t.place (eC x e)) e=some u from Cn bH]at gX;cases gX;exact hu av
  obtain⟨q1,k9⟩:=h.zC (qF (c:=c) (d:=setW (cY c e u) t.place (eC x e)) aa rfl (fun k=>.inl k) id gX);refine⟨fun z a6=>?_,k9⟩;rcases hb a6 with a6 | rfl
  ·exact q1 z a6
  exact hp
 have yJ:∀(u:bT) k,gD e (setW (cY c e u) t.place (eC x e)) k=gD e c k:=fun u k=>by
  have:=zq (fu e) (eC x e) (k:=k) i2;rw[show fu e (eC x e)=fu e x from rfl,Int.sub_self,ite_self,Int.add_zero]at this;exact this
 rcases h1 with⟨av,U⟩ | ⟨av,bg,U⟩ | ⟨av,bg,aj,U⟩ | ⟨av,bg,aj,U⟩
 ·rw[U];refine whole _ fun _=>.inl ⟨fun j z bd a6=>?_,?_⟩
  ·have:=aP a6;rw[show (setW (cY c e _) t.place (eC x e)).ap.length=c.ap.length from e8]at this;change (c.ap.length:Int)-1<j at bd;omega
  rw[yJ];change gD e c ((c.ap.length:Int)-1+1).toNat+0=iC e c;rw[show ((c.ap.length:Int)-1+1).toNat=c.ap.length by omega,Int.add_zero];exact h.total
 ·rw[U];have lu:=h.token t bH av;refine whole _ fun _=>?_
  unfold Good at lu ⊢;rw[yJ];change ((∀(i:Nat) z,t.place-1<i->_->_)/\gD e c (t.place-1+1).toNat+(t.sum+fu e x)=iC e c)\/0<gD e c (t.place-1+1).toNat+(t.sum+fu e x)\/(∃(i:Nat) (z:aQ),(i:Int)<=t.place-1/\_)\/(t.bN||fR e x)=true;rw[akG i0,FR i2]at lu;rw[akH];rcases lu with⟨fc,Dy⟩ | g | ⟨i,z,g1,g2,g3⟩ | g
  ·refine .inl ⟨fun j z bd a6=>?_,by omega⟩;change (c.ap.set t.place.toNat (eC x e))[j]?=some z at a6;rcases u7 a6 with⟨rfl,rfl⟩ | ⟨ct,a6⟩
   ·exact⟨hp,fun k=>by change (t.cw||j4 e x)=true;rw[show j4 e x=true from k,Bool.or_true]⟩
   obtain⟨cG,cg⟩:=fc j z (by omega) a6;exact⟨cG,fun k=>by change (t.cw||j4 e x)=true;rw[cg k,Bool.true_or]⟩
  ·exact .inr (.inl (by omega))
  ·by_cases hi:i=t.place.toNat
   ·subst hi;rw[i2]at g2;cases g2;exact .inr (.inr (.inr (by rw[g3,Bool.or_true])))
   exact .inr (.inr (.inl ⟨i,z,by omega,Ck g2 hi,g3⟩))
  exact .inr (.inr (.inr (by rw[g,Bool.true_or])))
 ·rw[U];obtain⟨⟨q1,k9⟩,_⟩:=h.over bH av bg aa hp aj;have a6:t.place=0:=by omega
  rw[a6]at i2 i1;have yq:∀k,((((c.ap.set 0 (told x e (t.cw||x.bB.getD e.toNat false))).take k).map (fu e)).sum)=gD e c k:=fun k=>by
   have:=zq (fu e) (told x e (t.cw||x.bB.getD e.toNat false)) (k:=k) i2;rw[show fu e (told x e (t.cw||x.bB.getD e.toNat false))=fu e x from rfl,Int.sub_self,ite_self,Int.add_zero]at this;exact this
  refine⟨?_,fun dt gX Ia=>?_,fun _=>⟨fun z a6=>?_,k9⟩⟩
  ·refine (yq _).trans ?_;rw[show (f' (setW (cY c e ⟨false,t.place,t.sum,t.bN,t.cw⟩) 0 (told x e (t.cw||x.bB.getD e.toNat false))) (c.news++hn (c.ap.length-1) e (t.cw||x.bB.getD e.toNat false))).ap.length=c.ap.length from e8];exact h.total
  ·change (if 0<=e then (c.tokens.set e.toNat _)[e.toNat]? else none)=some dt at gX;rw[Cn bH]at gX;cases gX;cases Ia
  rcases hb a6 with a6 | rfl
  ·exact q1 z a6
  exact hp
 rw[U];refine⟨h.total,fun dt gX Ia=>?_,h.zC⟩;change (if 0<=e then (c.tokens.set e.toNat _)[e.toNat]? else none)=some dt at gX;rw[Cn bH]at gX;cases gX;cases Ia
theorem Inv.step{d:a8}{p:cP}(h:Inv e c)(he:0<=e/\e<=3)(bP:cK c=true)(st:Step c p d):Inv e d:=by
 cases st with
 | work x r q hk aa ai az=>
  have bj:=jO bP aa;obtain⟨_,_,ag⟩:=FO bj;refine h.worker aa rfl rfl (qF aa rfl (fun k=>.inl k) id) (.inl ⟨rfl,id,rfl,fun k=>?_⟩);obtain⟨cG,cg,cE⟩:=oJ.1 k;rw[az]at cg;have hy:=cg r (eO ..);refine⟨oJ.2 ⟨cG,fun a ae=>cg a (fi _ ae),fun a ae=>?_⟩,?_⟩
  ·rw[akC a ae];exact hy
  have aA:=MK (hZ.1 bj).1 (r:=r) (by rw[az];exact eO ..);unfold j4;dsimp only;split
  ·exact u9 (xA aA.1 he.1 hy)
  rfl
 | input x r t hk aa ai az hi=>
  refine h.worker aa rfl rfl (qF aa rfl (fun k=>.inl k) id) (.inl ⟨rfl,id,rfl,fun k=>⟨?_,rfl⟩⟩);obtain⟨cG,cg,cE⟩:=oJ.1 k;rw[hi]at cG;refine oJ.2 ⟨fun a ae=>cG a (fi _ ae),fun a ae=>?_,fun a ae=>by cases ae⟩;obtain rfl:a=r:=by simpa using ae
  have:=cG a (eO ..);omega
 | eN x r t hk aa ai aU=>
  refine h.worker aa rfl rfl (qF aa rfl (fun k=>.inl k) id) (.inl ⟨rfl,id,rfl,fun k=>⟨?_,rfl⟩⟩);obtain⟨cG,cg,cE⟩:=oJ.1 k;rw[ai]at cE;refine oJ.2 ⟨cG,fun a ae=>?_,fun a ae=>cE a (fi _ ae)⟩;rcases hD.1 ae with ae | ae
  ·exact cg a ae
  obtain rfl:a=r:=by simpa using ae
  exact cE a (eO ..)
 | send x r t l hk aa ai aU ag hsend=>
  obtain⟨_,_,_,e1⟩:=Cj hsend;have bj:=jO bP aa;obtain⟨Ay,_,_⟩:=FO bj;have aA:=MK (hZ.1 bj).2.1 (r:=r) (by rw[ai];exact eO ..);have bw:=MJ (e:=e) (m:=(eY l r).1) ag;have sP:fu e (ma (iM x t) r.bq.bh)=fu e x+(if r.bq.bh=e then 1 else 0):=UP he aA Ay;rw[e1,akD e _ _ r _ _ _ _ l rfl]at bw;refine h.worker aa (d:=setW (dd c _ (eY l r).1) p.a _) rfl rfl (qF aa rfl (fun k=>.inl k) id) ?_;have sJ:iC e (setW (dd c (dR c.aC p.a (eh r.key c.aC.ap)) (eY l r).1) p.a (ma (iM x t) r.bq.bh))=iC e c+(if r.bq.bh=e then 1 else 0):=by
   rw[e1];change iC e (dd c _ _)=_;omega
  by_cases sO:r.bq.bh=e
  ·rw[bi sO]at sP sJ;refine .inr (.inl ⟨?_,sP,id,sJ⟩);rw[lj];intro k;obtain⟨_,_,cE⟩:=oJ.1 k;exact cE r (by rw[ai];exact eO ..) sO
  rw[ba sO]at sP sJ;refine .inl ⟨by omega,id,by omega,fun k=>⟨?_,rfl⟩⟩;obtain⟨cG,cg,cE⟩:=oJ.1 k;rw[ai]at cE;exact oJ.2 ⟨cG,cg,fun a ae=>cE a (fi _ ae)⟩
 | take l x hk ek ag aa bH=>
  obtain⟨_,r,q,az,e2,e1⟩:=xx bH;have bj:=jO bP aa;obtain⟨Ay,yh,_⟩:=FO bj;have aA:=u3 (Ly (rV bP ag) bH).2;rw[e2]at aA;have bw:=MJ (e:=e) (m:=(dV l).1) ag;have sP:fu e (hN x r)=fu e x+(if r.bq.bh=e then -1 else 0):=UP he aA Ay;rw[e1,akE e r q l az l.cap l.eM (l.back+1) l.eu (l.dv+1)]at bw;rw[e2];refine h.worker aa (d:=setW (dd c _ (dV l).1) p.b _) rfl rfl (qF aa rfl (fun k=>.inl k) id) ?_;have sJ:iC e (setW (dd c (dR c.aC p.a p.b) (dV l).1) p.b (hN x r))+(if r.bq.bh=e then 1 else 0)=iC e c:=by
   rw[e1];change iC e (dd c _ _)+_=_;omega
  by_cases sO:r.bq.bh=e
  ·rw[bi sO]at sP sJ;refine .inr (.inr ⟨sJ.symm,by omega,?_⟩);unfold fR hN;dsimp only;rw[sO];exact Cm (by omega)
  rw[ba sO]at sP sJ;refine .inl ⟨by omega,fun k=>?_,by omega,fun k=>⟨?_,rfl⟩⟩
  ·unfold fR hN;dsimp only;rw[u9 (xA aA.1 he.1 sO)];exact k
  obtain⟨cG,cg,cE⟩:=oJ.1 k;refine oJ.2 ⟨cG,fun a ae=>?_,cE⟩;rcases hD.1 ae with ae | ae
  ·exact cg a ae
  obtain rfl:a=r:=by simpa using ae
  exact sO
 | o4 l hk ek ag ak=>
  rcases xy l with⟨k,_⟩ | ⟨_,_,_,e1⟩
  ·rw[ak]at k;cases k
  have bw:=MJ (e:=e) (m:=(gw l).1) ag;have U:nS e (gw l).1=nS e l:=by rw[e1];rfl
  have ax:iC e (dd c (dR c.aC p.a p.b) (gw l).1)=iC e c:=by omega
  refine⟨by rw[ax];exact h.total,fun t gX av=>?_,fun gX=>⟨(h.zC gX).1,by rw[ax];exact (h.zC gX).2⟩⟩;have lu:=h.token t gX av;unfold Good at lu ⊢;rw[ax];exact lu
 | token t x cR hk i' bg aE bH aa pb=>
  simp only[ar,cr]at i';by_cases uc:p.a=e
  ·subst uc;exact h.ax4 bP bH aa
  exact h.ax3 he.1 i'.1 uc aa
 | pc k n x hk aR aE aa=>
  obtain⟨cG,cg,cE⟩:=FQ (x:=x) (n:=n) (e:=e);refine h.worker aa rfl rfl (qF aa rfl (fun q=>?_) (fun q=>?_)) (.inl ⟨cG,fun q=>cg.trans q,rfl,fun q=>⟨akF.trans q,cE⟩⟩)
  ·rw[FP,lM]at q;rcases q with q | q
   ·exact .inl q
   exact .inr (nd.2 ⟨n,cS aR,q⟩)
  unfold mm at q ⊢;rw[nd]at q ⊢;obtain⟨m,hm,q⟩:=q;refine⟨m,?_,q⟩;change m∈cutAt c.news k at hm;unfold cutAt at hm;rcases hD.1 hm with hm | hm
  ·exact zQ hm
  exact G7 hm
end Go.Proofs.YtdchjefneblpgaaGreat
namespace Go.Proofs.YtdchjefneblpgaaGreat
open Go.Sx Go.RowKit Go.Proofs.Tryz
theorem FT{α:Type}{f:α->Nat}{k:Nat}:∀{xs:List α},(∀x∈xs,f x<=k)->(xs.map f).sum<=xs.length*k
 | [],_=>by simp
 | a::xs,h=>by
  have h1:=h a (by simp);have U:=FT (f:=f) (k:=k) (xs:=xs) (fun x aa=>h x (by simp[aa]));simp only[jW,nf,dK,fA,Nat.one_mul];omega
theorem vb{g:bS}{xs:List aB}:iE g xs=true<->et g=true/\xs.length<=20/\xs.any me=false:=by
 simp only[iE,cm,cr,fP,and_assoc]
theorem UR{g:bS}{xs:List aB}(h:iE g xs=true):(dh g xs).sz<=g.sz+1000:=by
 obtain⟨h1,U,_⟩:=vb.1 h;have aR:=je h1;obtain⟨n,hL⟩:∃n:Nat,g.ap=n:=⟨g.ap.toNat,by omega⟩
 have a:=FT (f:=aQ.sz) (k:=92) (xs:=mR g xs n) (fun x aa=>by
  simp only[mR,jX]at aa;obtain⟨w,_,rfl⟩:=aa;have:=MI (g:=g) U (w:Nat);simp only[jP,aQ.sz,ch,List.length_replicate];omega)
 have b:=FT (f:=bD.sz) (k:=0) (xs:=List.replicate (n*n) (iN g.cap)) (fun x aa=>by
  rw[List.eq_of_mem_replicate aa];simp[iN,bD.sz])
 have hm:n*n<=4*4:=Nat.mul_le_mul (by omega) (by omega);simp only[dh,a8.sz,eZ,hL,oX,List.length_replicate,ch,xv]at a b ⊢;omega
theorem US(g:bS)(xs:List aB):hS (dh g xs):=by
 intro l ag;have:=List.eq_of_mem_replicate ag;subst this;simp[iN]
end Go.Proofs.YtdchjefneblpgaaGreat
namespace Go.Proofs.YtdchjefneblpgaaGreat
open Go.Sx Go.RowKit Go.Proofs.Tryz
structure jk (c:a8):Prop where
 w:∀(i:Nat) x,c.ap[i]?=some x->(∀r∈x.queue,eh r.key c.aC.ap=i)/\∀r∈x.bK,eh r.key c.aC.ap=i
 l:∀(i:Nat) l,c.bR[i]?=some l->∀r∈l.queue,eh r.key c.aC.ap=(i:Int).tmod c.aC.ap
variable{c:a8}
theorem jk.ok(h:jk c)(aR:1<=c.aC.ap):T3 c=true:=by
 unfold T3;rw[zg (p:=Hp c.aC.ap) fun i x aa=>?_,zg (p:=Ho c.aC.ap) fun i l ag=>?_]
 ·rfl
 ·simp only[Ho,fB,kA,fh,B3,bne_iff_ne,hc,Decidable.not_not];exact⟨by omega,h.l i l ag⟩
 simp only[Hp,fB,fh,B3,bne_iff_ne,hc,Decidable.not_not];exact h.w i x aa
theorem jk.setW{c:a8}{i:Int}{y:aQ}(h:jk c)(bu:(∀r∈y.queue,eh r.key c.aC.ap=i.toNat)/\∀r∈y.bK,eh r.key c.aC.ap=i.toNat):jk (setW c i y):=
 ⟨fun j x aa=>by
  rcases u7 aa with⟨rfl,rfl⟩ | ⟨_,aa⟩
  ·exact bu
  exact h.w j x aa,h.l⟩
theorem jk.dd{c:a8}{i:Int}{m:bD}(h:jk c)(hm:∀r∈m.queue,eh r.key c.aC.ap=(i.toNat:Int).tmod c.aC.ap):jk (dd c i m):=
 ⟨h.w,fun j l ag=>by
  rcases u7 ag with⟨rfl,rfl⟩ | ⟨_,ag⟩
  ·exact hm
  exact h.l j l ag⟩
variable{i:Int}{x:aQ}
theorem jk.at(h:jk c)(aa:cp c i=some x):(∀r∈x.queue,eh r.key c.aC.ap=i.toNat)/\∀r∈x.bK,eh r.key c.aC.ap=i.toNat:=h.w _ x (eJ aa).2.2
theorem jk.link{l:bD}(h:jk c)(ag:eB c i=some l):∀r∈l.queue,eh r.key c.aC.ap=(i.toNat:Int).tmod c.aC.ap:=h.l _ l (ij ag).2.2
theorem jk.cY{i:Int}{u:bT}(h:jk c):jk (cY c i u):=⟨h.w,h.l⟩
variable{g:bS}
theorem FU{a b:Int}(h:0<=dR g a b):ar a 0 (g.ap-1)=true/\ar b 0 (g.ap-1)=true:=by
 cases ak:(ar a 0 (g.ap-1)&&ar b 0 (g.ap-1)) with
 | true=>simpa using ak
 | false=>rw[zi ak]at h;omega
theorem jk.ev{e:Int}{t:bT}(h:jk c)(aa:cp c t.place=some x):jk (ev c e t x).1:=by
 have az:=h.at aa;rcases oH c e t x with⟨_,U⟩ | ⟨_,_,⟨_,U⟩ | ⟨_,_,U⟩ | ⟨_,bg,_,U⟩ | ⟨_,_,_,U⟩⟩
 ·rw[U];exact h
 ·rw[U];exact h.cY.setW az
 ·rw[U];exact h.cY.setW az
 ·rw[U];have a6:t.place=0:=by have:=(eJ aa).1;omega
  rw[a6]at az;have cg:=(h.cY (i:=e) (u:=⟨false,t.place,t.sum,t.bN,t.cw⟩)).setW (i:=0) (y:=told x e (t.cw||x.bB.getD e.toNat false)) az;exact⟨cg.w,cg.l⟩
 rw[U];exact⟨h.w,h.l⟩
theorem jk.step{d:a8}{p:cP}(h:jk c)(bP:cK c=true)(st:Step c p d):jk d:=by
 have aR:=je (fO.1 bP).1;cases st with
 | work x r q hk aa ai az=>
  have:=h.at aa;rw[az]at this;exact h.setW ⟨fun a ae=>this.1 a (fi _ ae),this.2⟩
 | input x r t hk aa ai az hi=>
  have:=(h.at aa).2;rw[hi]at this;exact h.setW ⟨fun a ae=>this a (by simp only[List.mem_singleton]at ae;rw[ae];exact eO ..),fun a ae=>this a (fi _ ae)⟩
 | eN x r t hk aa ai aU=>
  have:=h.at aa;have hp:=(eJ aa).1;refine h.setW ⟨fun a ae=>?_,this.2⟩;rcases hD.1 ae with ae | ae
  ·exact this.1 a ae
  obtain rfl:a=r:=by simpa using ae
  omega
 | send x r t l hk aa ai aU ag hsend=>
  obtain⟨_,_,_,e1⟩:=Cj hsend;obtain⟨g1,g2⟩:=FU (ij ag).1;obtain⟨_,_,_,_,uo⟩:=xo aR g1 g2;have hp:=(ij ag).1;have hw:=h.at aa;refine (h.dd (i:=dR c.aC p.a (eh r.key c.aC.ap)) (m:=(eY l r).1) fun a ae=>?_).setW (c:=Go.Proofs.YtdchjefneblpgaaGreat.dd c _ _) hw;rw[e1]at ae;rcases hD.1 ae with ae | ae
  ·exact h.link ag a ae
  obtain rfl:a=r:=by simpa using ae
  rw[B7 ag,(xo aR g1 g2).1,uo]
 | take l x hk ek ag aa bH=>
  obtain⟨_,r,q,az,e2,e1⟩:=xx bH;obtain⟨g1,g2⟩:=FU (ij ag).1;obtain⟨iF,_,_,_,uo⟩:=xo aR g1 g2;have kK:=h.link ag;rw[az,B7 ag,iF,uo]at kK;have aj:=(eJ aa).1;refine (h.dd (i:=dR c.aC p.a p.b) (m:=(dV l).1) fun a ae=>?_).setW (c:=Go.Proofs.YtdchjefneblpgaaGreat.dd c _ _) ⟨fun a ae=>?_,(h.at aa).2⟩
  ·rw[e1]at ae;rw[B7 ag,iF,uo];exact kK a (fi _ ae)
  rcases hD.1 ae with ae | ae
  ·exact (h.at aa).1 a ae
  obtain rfl:a=_:=by simpa using ae
  rw[e2];have:=kK r (eO ..);change eh r.key c.aC.ap=_;omega
 | o4 l hk ek ag ak=>
  rcases xy l with⟨k,_⟩ | ⟨_,_,_,e1⟩
  ·rw[ak]at k;cases k
  refine h.dd fun a ae=>?_
  rw[e1]at ae;exact h.link ag a ae
 | token t x cR hk i' bg aE bH aa pb=>exact h.ev aa
 | pc k n x hk aR aE aa=>
  have az:=h.at aa;have:=h.setW (i:=p.a) (y:=er x n) (by
   unfold er;split<;>exact az)
  exact⟨this.w,this.l⟩
structure iW (S:Int) (c:a8):Prop where
 bG:∀x∈c.ap,∀k:Nat,-S<=x.bG.getD k 0/\x.bG.getD k 0<=S
 eu:∀l∈c.bR,l.eu<=S
 vo:∀t∈c.tokens,t.going=true->t.sum+200000*t.place<=600000/\-600000<=t.sum-200000*t.place
variable{S:Int}
theorem UT{xs:List Int}{f d:Int}(aE:-1<=d/\d<=1)(h:∀k:Nat,-S<=xs.getD k 0/\xs.getD k 0<=S)(k:Nat):-(S+1)<=(k6 xs f d).getD k 0/\(k6 xs f d).getD k 0<=S+1:=by
 unfold k6;have h1:=h f.toNat;have U:=h k;by_cases bw:f.toNat=k
 ·subst bw;by_cases ag:f.toNat<xs.length
  ·rw[Cm ag];omega
  rw[List.set_eq_of_length_le (by omega)];omega
 rw[u9 bw];omega
theorem iW.mono{T:Int}(h:iW S c)(gX:S<=T):iW T c:=
 ⟨fun x aa k=>by have:=h.bG x aa k;omega,fun l ag=>by have:=h.eu l ag;omega,h.vo⟩
theorem iW.setW{c:a8}{i:Int}{y:aQ}(h:iW S c)(bu:∀k:Nat,-S<=y.bG.getD k 0/\y.bG.getD k 0<=S):iW S (setW c i y):=
 ⟨fun x aa=>by
  rcases hb aa with aa | rfl
  ·exact h.bG x aa
  exact bu,h.eu,h.vo⟩
theorem iW.dd{c:a8}{i:Int}{m:bD}(h:iW S c)(hm:m.eu<=S):iW S (dd c i m):=
 ⟨h.bG,fun l ag=>by
  rcases hb ag with ag | rfl
  ·exact h.eu l ag
  exact hm,h.vo⟩
theorem iW.cY{i:Int}{u:bT}(h:iW S c)(hu:u.going=true->u.sum+200000*u.place<=600000/\-600000<=u.sum-200000*u.place):iW S (cY c i u):=
 ⟨h.bG,h.eu,fun t bH=>by
  rcases hb bH with bH | rfl
  ·exact h.vo t bH
  exact hu⟩
theorem iW.at(h:iW S c)(aa:cp c i=some x):∀k:Nat,-S<=x.bG.getD k 0/\x.bG.getD k 0<=S:=h.bG x (cS (eJ aa).2.2)
theorem iW.ev{e:Int}{t:bT}(h:iW S c)(iz:S<=200000)(bP:cK c=true)(bH:g' c e=some t)(aa:cp c t.place=some x):iW S (ev c e t x).1:=by
 have hw:=U6 bP;have aj:=h.at aa;have ab4:=h.vo t (cS (xn bH).2.2);rcases oH c e t x with⟨_,U⟩ | ⟨_,_,⟨_,U⟩ | ⟨av,bg,U⟩ | ⟨_,bg,_,U⟩ | ⟨_,_,_,U⟩⟩
 ·rw[U];exact h
 ·rw[U];exact (h.cY fun _=>⟨by dsimp only;omega,by dsimp only;omega⟩).setW aj
 ·rw[U];have ax:=aj e.toNat;have aK:=ab4 av;exact (h.cY fun _=>⟨by dsimp only;omega,by dsimp only;omega⟩).setW aj
 ·rw[U];have:=(h.cY (i:=e) (u:=⟨false,t.place,t.sum,t.bN,t.cw⟩) (fun k=>by cases k)).setW (i:=0) (y:=told x e (t.cw||x.bB.getD e.toNat false)) aj;exact⟨this.bG,this.eu,this.vo⟩
 rw[U];exact h.cY fun k=>by cases k
theorem iW.step{d:a8}{p:cP}(h:iW S c)(iz:S<200000)(bP:cK c=true)(st:Step c p d):iW (S+1) d:=by
 have gn:=h.mono (show S<=S+1 by omega);cases st with
 | work x r q hk aa ai az=>have aj:=gn.at aa;exact gn.setW aj
 | input x r t hk aa ai az hi=>have aj:=gn.at aa;exact gn.setW aj
 | eN x r t hk aa ai aU=>have aj:=gn.at aa;exact gn.setW aj
 | send x r t l hk aa ai aU ag hsend=>
  obtain⟨_,_,_,e1⟩:=Cj hsend;have:=h.eu l (cS (ij ag).2.2);have aj:=UT (f:=r.bq.bh) (d:=1) (by omega) (h.at aa);exact (gn.dd (by rw[e1];dsimp only;omega)).setW aj
 | take l x hk ek ag aa bH=>
  obtain⟨_,r,q,az,e2,e1⟩:=xx bH;have:=h.eu l (cS (ij ag).2.2);have aj:=UT (f:=(dV l).2.1.bq.bh) (d:=-1) (by omega) (h.at aa);exact (gn.dd (by rw[e1];dsimp only;omega)).setW aj
 | o4 l hk ek ag ak=>
  rcases xy l with⟨k,_⟩ | ⟨_,_,_,e1⟩
  ·rw[ak]at k;cases k
  have:=h.eu l (cS (ij ag).2.2);exact gn.dd (by rw[e1];dsimp only;omega)
 | token t x cR hk i' bg aE bH aa pb=>exact (h.ev (by omega) bP bH aa).mono (by omega)
 | pc k n x hk aR aE aa=>
  have aj:=gn.at aa;have:=gn.setW (i:=p.a) (y:=er x n) (by
   unfold er;split<;>exact aj)
  exact⟨this.bG,this.eu,this.vo⟩
theorem akI(p:cP)(bP:cK c=true)(aj:iW S c)(iz:S<1000000):cK (dA c p).1=true:=by
 have aR:=je (fO.1 bP).1;have key:∀{i:Int} {x:aQ},cp c i=some x->∀(k:Nat) (d:Int),-1<=d/\d<=1->ar (x.bG.getD k 0+d) (-1000000) 1000000=true:=fun aa k d aE=>by
  have:=aj.at aa k;simp only[ar,cr];omega
 unfold dA;split
 ·exact T0 bP
 split
 ·exact T1 bP
 split
 ·unfold lG;rw[bi bP];cases aa:cp c p.a with
  | none=>exact bP
  | some x=>
   dsimp only;cases ai:x.b3 with
   | nil=>exact bP
   | cons r t=>
    dsimp only;unfold qz;split
    ·exact TY bP aa ai
    rename_i aU;cases ag:eB c (dR c.aC p.a (eh r.key c.aC.ap)) with
    | none=>exact bP
    | some l=>
     dsimp only;split
     ·rename_i h;exact (TX bP aa ai (zj _ aR.1) aU ag h).trans (key aa _ 1 (by omega))
     exact bP
 split
 ·unfold lH;split
  ·cases ag:eB c (dR c.aC p.a p.b) with
   | none=>exact bP
   | some l=>
    cases aa:cp c p.b with
    | none=>exact bP
    | some x=>
     dsimp only;split
     ·rename_i h;exact (TZ bP ag aa h).trans (key aa _ (-1) (by omega))
     exact bP
  exact bP
 split
 ·exact Ts bP
 split
 ·exact Tu bP
 split
 ·exact Tv bP
 exact bP
structure kh (S:Int) (c:a8):Prop where
 ok:cK c=true
 owns:jk c
 tJ:iW S c
 inv:∀e:Int,0<=e/\e<=3->Inv e c
theorem kh.mono{T:Int}(h:kh S c)(gX:S<=T):kh T c:=⟨h.ok,h.owns,h.tJ.mono gX,h.inv⟩
theorem kh.step(h:kh S c)(iz:S<200000)(p:cP):kh (S+1) (dA c p).1:=by
 have bP:=akI p h.ok h.tJ (by omega);rcases xz c p with⟨_,U⟩ | ⟨_,_,st⟩
 ·rw[U];exact h.mono (by omega)
 exact⟨bP,h.owns.step h.ok st,h.tJ.step iz h.ok st,fun e he=>(h.inv e he).step he h.ok st⟩
theorem kh.run{c:a8}:∀(l:List cP) {S:Int} {c:a8},kh S c->S+l.length<=200000->kh (S+l.length) (dc c l).1
 | [],S,c,h,_=>by simpa[dc]using h
 | p::l,S,c,h,iz=>by
  simp only[dK]at iz ⊢;have:=kh.run (c:=c) l (h.step (by omega) p) (by omega);simp only[dc];rw[show S+((l.length+1:Nat):Int)=S+1+l.length by omega];exact this
theorem FV{xs:List aB}{w:Int}{r:aB}(h:r∈own g xs w):r∈xs/\eh r.key g.ap=w:=by
 simp only[own,l4,jU,l3,List.mem_filter,cm,ed]at h;obtain⟨_,_,h1,_,U⟩:=h;exact⟨h1,U⟩
theorem FW{xs:List aB}{n i:Nat}(h:(mR g xs n)[i]?=some x):x=jP (own g xs (i:Nat))/\i<n:=by
 have hi:=aP h;rw[xv]at hi;unfold mR at h;rw[du,List.getElem?_range hi]at h;exact⟨(eE h).symm,hi⟩
end Go.Proofs.YtdchjefneblpgaaGreat
namespace Go.Proofs.YtdchjefneblpgaaGreat
open Go.Sx Go.RowKit Go.Proofs.Tryz
theorem UU(g:bS)(xs:List aB)(w:Int):∀n:Nat,(l4 g xs w n).Pairwise (fun a b=>a.bq.bh<=b.bq.bh)/\∀r∈l4 g xs w n,r.bq.bh<n
 | 0=>⟨List.Pairwise.nil,fun r aA=>by simp[l4]at aA⟩
 | n+1=>by
  obtain⟨h1,U⟩:=UU g xs w n;have ax:∀r∈l3 g xs w (n:Nat),r.bq.bh=(n:Nat):=fun r aA=>by
   simp only[l3,List.mem_filter,cm,ed]at aA;exact aA.2.1
  rw[xu];refine⟨List.pairwise_append.2 ⟨h1,?_,fun a ae b aj=>?_⟩,fun r aA=>?_⟩
  ·exact List.pairwise_of_forall_mem_list fun a ae b aj=>by rw[ax a ae,ax b aj];exact Int.le_refl _
  ·have:=U a ae;have:=ax b aj;omega
  rcases hD.1 aA with aA | aA
  ·have:=U r aA;omega
  have:=ax r aA;omega
theorem UW{α:Type}{R:α->α->Prop}:∀{xs:List α},xs.Pairwise R->∀{j:Nat} {a b:α},xs[j]?=some a->xs[j+1]?=some b->R a b
 | [],_,_,_,_,h,_=>by simp at h
 | x::xs,hp,0,a,b,h1,U=>by
  obtain rfl:x=a:=by simpa using h1
  exact (List.pairwise_cons.1 hp).1 b (cS (i:=0) (by simpa using U))
 | x::xs,hp,j+1,a,b,h1,U=>UW (List.pairwise_cons.1 hp).2 (j:=j) (by simpa using h1) (by simpa using U)
variable{g:bS}{xs:List aB}
theorem akJ(h:iE g xs=true)(w:Int):e7 g (jP (own g xs w))=true:=by
 obtain⟨h1,_,ax⟩:=vb.1 h;have ag:1<=(g.nodes.length:Int):=by
  simp only[et,cm,ar,cr]at h1;omega
 have PF:∀r∈own g xs w,eL r=true/\r.op=0/\r.bq.di=0:=fun r aA=>by
  rw[fh]at ax;have:=ax r (FV aA).1;simp only[me,lM,fP,bne_iff_ne,hc,not_or,Bool.not_eq_false,Decidable.not_not]at this;exact⟨this.1.1,this.1.2,this.2⟩
 refine hZ.2 ⟨rfl,rfl,?_,rfl,rfl,rfl,rfl,?_,rfl,rfl⟩
 ·simp only[fW,fP,fh,jP];intro r aA;obtain⟨cG,cg,_⟩:=PF r aA;simp only[jw,cG,cg,jj,iU,cr];omega
 refine zg fun i a ae=>?_
 change (own g xs w)[i]?=some a at ae;obtain⟨_,cg,cE⟩:=PF a (cS ae);cases i with
 | zero=>unfold lz;rw[cg,cE];rfl
 | succ j=>
  unfold lz;rw[cg,cE];change (match (own g xs w)[j]? with | some q=>decide (q.bq.bh>a.bq.bh) | none=>false)=false;cases az:(own g xs w)[j]? with
  | none=>rfl
  | some q=>
   have:=UW (UU g xs w 4).1 az ae;simp only[kA];omega
theorem UX(h:iE g xs=true):cK (dh g xs)=true:=by
 obtain⟨h1,_,_⟩:=vb.1 h;have aR:=je h1;have ak:1<=g.cap/\g.cap<=4:=by
  simp only[et,cm,ar,cr]at h1;omega
 have gd:gG g.cap 1 4=g.cap:=by unfold gG;rw[ba (by omega),ba (by omega),ba (by omega)]
 refine fO.2 ⟨h1,?_,?_,rfl,?_,?_,?_,rfl⟩
 ·simp only[dh,xv];omega
 ·simp only[dh,List.length_replicate,Int.natCast_mul];rw[Int.toNat_of_nonneg (by omega)]
 ·rw[fh];intro x aa;obtain⟨i,hi⟩:=List.getElem?_of_mem aa;obtain⟨rfl,_⟩:=FW hi;rw[show (dh g xs).aC=g from rfl,akJ h];decide
 ·refine zg fun i l ag=>?_
  have:=List.eq_of_mem_replicate (cS ag);subst this;refine pE.2 ⟨oU.2 ⟨?_,?_,?_,?_,rfl,?_,rfl,rfl⟩,?_,rfl,fun _=>rfl⟩
  ·simp only[iN,gd,ar,cr];omega
  ·simp only[iN,gd,ar,cr];omega
  ·simp only[iN,gd,ar,cr];omega
  ·simp only[iN,ch];omega
  ·simp only[iN];omega
  simp only[iN,gd];rfl
 rw[fh];intro t bH;have:=List.eq_of_mem_replicate bH;subst this;rw[show kS (dh g xs).aC.ap vn=false from rW.2 ⟨⟨by decide,by change (0:Int)<=g.ap-1;omega⟩,fun _=>rfl,by decide⟩];decide
theorem UY{α:Type}{f:α->Int}:∀{xs:List α},(∀x∈xs,f x=0)->(xs.map f).sum=0
 | [],_=>rfl
 | a::xs,h=>by
  rw[jW,nf,h a (eO ..),UY fun x aa=>h x (fi _ aa)];rfl
theorem kh.new(h:iE g xs=true):kh 0 (dh g xs):=by
 have hw:∀x∈(dh g xs).ap,∃w:Nat,x=jP (own g xs w):=fun x aa=>by
  obtain⟨i,hi⟩:=List.getElem?_of_mem aa;exact⟨i,(FW hi).1⟩
 have kK:∀l∈(dh g xs).bR,l=iN g.cap:=fun l ag=>List.eq_of_mem_replicate ag
 have zero:∀(k:Nat),(List.replicate 4 (0:Int)).getD k 0=0:=fun k=>by
  rw[iv,zS];split<;>rfl
 refine⟨UX h,⟨fun i x aa=>?_,fun i l ag=>?_⟩,⟨fun x aa k=>?_,fun l ag=>?_,fun t bH av=>?_⟩,fun e he=>⟨?_,fun t bH av=>?_,fun gX=>?_⟩⟩
 ·obtain⟨rfl,_⟩:=FW aa;exact⟨fun r aA=>by simp[jP]at aA,fun r aA=>(FV aA).2⟩
 ·rw[kK l (cS ag)];intro r aA;simp[iN]at aA
 ·obtain⟨w,rfl⟩:=hw x aa;have:=zero k;simp only[jP];omega
 ·rw[kK l ag];exact Int.le_refl _
 ·rw[List.eq_of_mem_replicate bH]at av;cases av
 ·have h1:gD e (dh g xs) (dh g xs).ap.length=0:=by
   refine UY fun x aa=>?_
   obtain⟨w,rfl⟩:=hw x (zQ aa);exact zero _
  have U:iC e (dh g xs)=0:=by
   unfold iC c7;have:=FT (f:=nS e) (k:=0) (xs:=(dh g xs).bR) (fun l ag=>by rw[kK l ag];simp[nS,gH,iN]);omega
  rw[h1,U];rfl
 ·obtain⟨_,_,U⟩:=xn bH;rw[List.eq_of_mem_replicate (cS U)]at av;cases av
 exfalso;have h1:mT (dh g xs) e=false:=by
  unfold mT;rw[fh];intro x aa;obtain⟨w,rfl⟩:=hw x aa;simp[eV,jP]
 rw[h1]at gX;simp[mm,dh]at gX
theorem kh.drawn(h:iE g xs=true)(l:List cP)(ag:l.length<=200000):kh l.length (dc (dh g xs) l).1:=by
 have:=(kh.new h).run (c:=dh g xs) l (by omega);rwa[Int.zero_add]at this
end Go.Proofs.YtdchjefneblpgaaGreat
namespace Go.Proofs.YtdchjefneblpgaaGreat
open Go.Sx Go.RowKit Go.Proofs.Tryz
theorem UZ(f h:Nat->Nat):∀l:List Nat,(l.map fun i=>f i+h i).sum=(l.map f).sum+(l.map h).sum
 | []=>rfl
 | a::l=>by
  simp only[jW,nf,UZ f h l];omega
theorem ML{f:Nat->Nat}:∀{l:List Nat},(∀i∈l,f i=0)->(l.map f).sum=0
 | [],_=>rfl
 | a::l,h=>by rw[jW,nf,h a (eO ..),ML fun i hi=>h i (fi _ hi)]
theorem U0(k:Nat):∀n,((List.range n).map fun i=>if k=i then 1 else 0).sum=if k<n then 1 else 0
 | 0=>rfl
 | n+1=>by
  rw[List.range_succ,gW,List.sum_append,U0 k n];simp only[jW,List.map_nil,nf,List.sum_nil];split<;>split<;>split<;>omega
theorem MN{α:Type}(p:α->Bool)(f:α->Nat)(n:Nat):∀xs:List α,(∀a∈xs,f a<n)->((List.range n).map fun i=>(xs.filter fun a=>p a&&f a==i).length).sum=(xs.filter p).length
 | [],_=>ML (l:=List.range n) fun i _=>rfl
 | a::xs,h=>by
  have dI:=MN p f n xs fun b aj=>h b (fi _ aj)
  have e:∀i,((a::xs).filter fun a=>p a&&f a==i).length=(xs.filter fun a=>p a&&f a==i).length+(if p a=true then (if f a=i then 1 else 0) else 0):=by
   intro i;rw[List.filter_cons];cases p a with
   | false=>simp
   | true=>
    by_cases hi:f a=i
    ·simp[hi]
    simp[hi]
  simp only[e];rw[UZ,dI,List.filter_cons];cases p a with
  | false=>simp only[oZ,ll];rw[ML (f:=fun _=>0) fun i _=>rfl];rfl
  | true=>simp only[fQ];rw[U0,bi (h a (eO ..))];simp
theorem FX(g:bS)(xs:List aB)(w e k:Int):gH e (l3 g xs w k)=if k=e then l3 g xs w e else []:=by
 split
 ·rename_i h;subst h;refine List.filter_eq_self.2 fun r aA=>?_
  unfold l3 at aA;have:=(List.mem_filter.1 aA).2;rw[cm]at this;exact this.1
 rename_i h;refine List.filter_eq_nil_iff.2 fun r aA=>?_
 unfold l3 at aA;have:=(List.mem_filter.1 aA).2;rw[cm,ed]at this;rw[ed,this.1];exact h
theorem akK(g:bS)(xs:List aB)(w:Int)(e:Nat)(he:e<4):gH e (own g xs w)=l3 g xs w e:=by
 have app:∀a b:List aB,gH e (a++b)=gH e a++gH e b:=fun a b=>List.filter_append ..
 have nil:gH (e:Int) (l4 g xs w 0)=[]:=rfl;unfold own;rw[xu,xu,xu,xu,app,app,app,app,nil,FX,FX,FX,FX];rcases (by omega:e=0\/e=1\/e=2\/e=3) with rfl | rfl | rfl | rfl<;>simp
def rY(c:a8):Nat->Nat
 | 0=>0
 | n+1=>rY c n+(qx c n).length
theorem FY{g:bS}{xs:List aB}(h:iE g xs=true)(e:Nat)(he:e<4):(qx (dh g xs) e).length=(xs.filter fun r=>r.bq.bh==(e:Int)).length:=by
 obtain⟨av,_,_⟩:=vb.1 h;have hw:=je av;have e1:qx (dh g xs) e=(List.range g.ap.toNat).flatMap fun w=>l3 g xs (w:Nat) e:=by
  unfold qx;change ((List.range g.ap.toNat).map fun w=>jP (own g xs (w:Nat))).flatMap _=_;rw[List.flatMap_map]
  congr 1
  funext w;exact akK g xs w e he
 rw[e1,List.length_flatMap];have e2:(fun w:Nat=>(l3 g xs (w:Nat) e).length)=fun w:Nat=>(xs.filter fun r=>(r.bq.bh==(e:Int))&&(eh r.key g.ap).toNat==w).length:=by
  funext w;unfold l3
  congr 1
  apply List.filter_congr;intro r _;have aU:=zj r.key hw.1;simp only[ar,cr]at aU
  congr 1
  rw[Bool.eq_iff_iff,ed,ed];omega
 rw[e2];exact MN _ _ _ xs fun r _=>by
  have aU:=zj r.key hw.1;simp only[ar,cr]at aU;omega
theorem akL{g:bS}{xs:List aB}(h:iE g xs=true):rY (dh g xs) 4=xs.length:=by
 obtain⟨_,_,aj⟩:=vb.1 h;have aa:∀r∈xs,0<=r.bq.bh/\r.bq.bh<=3:=by
  intro r aA;rw[fh]at aj;have:=aj r aA;simp only[me,lM,fP,bne_iff_ne,hc,not_or,Bool.not_eq_false,Decidable.not_not]at this;have:=this.1.1;simp only[eL,iL,ar,cm,cr]at this;omega
 have k:=MN (fun _:aB=>true) (fun r=>r.bq.bh.toNat) 4 xs fun r aA=>by
  have:=aa r aA;omega
 have e:∀i:Nat,(xs.filter fun r=>true&&r.bq.bh.toNat==i)=xs.filter fun r=>r.bq.bh==(i:Int):=by
  intro i;apply List.filter_congr;intro r aA;have:=aa r aA;rw[na,Bool.eq_iff_iff,ed,ed];omega
 simp only[e]at k;simp only[rY];rw[FY h 0 (by omega),FY h 1 (by omega),FY h 2 (by omega),FY h 3 (by omega)];have t:(xs.filter fun _:aB=>true)=xs:=List.filter_eq_self.2 fun _ _=>rfl
 rw[t]at k;rw[<-k];simp[List.range_succ];omega
