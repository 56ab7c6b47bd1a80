import Derived.Test.YtdchjefneblpgaaGreatG3
import Derived.Test.YtdchjefneblpgaaGreatP31
set_option linter.unusedVariables false
set_option linter.unusedSimpArgs false
namespace Go.Proofs.YtdchjefneblpgaaGreat
open Go.Sx Go.RowKit Go.Proofs.Tryz
variable{xs:List Cell}
theorem Oz{x z:Cell}:z∈ie xs x<->z=x\/z∈xs:=by
 unfold ie;split
 ·grind[Pe,id]
 generalize mM xs x=n;have e:z∈xs<->z∈xs.take n\/z∈xs.drop n:=by rw[<-gg,E1]
 grind
theorem XV(op ep key:Int):∀(xs:List Cell) (s:Int×Bool),(xs.foldl (fj op ep key) s).2=true->
  (s.2=true/\(xs.foldl (fj op ep key) s).1=s.1)\/∃a∈xs,te op ep key a=true/\a.val=(xs.foldl (fj op ep key) s).1
 | [],s,h=>.inl ⟨h,rfl⟩
 | x::xs,s,h=>by
  rw[List.foldl_cons]at h ⊢;rcases XV op ep key xs (fj op ep key s x) h with⟨h1,U⟩ | ⟨a,ae,h1,U⟩
  ·rw[U];unfold fj at h1 ⊢;split
   ·simp_all[fN,te,cc]
   grind
  grind
variable{u:Cell}
theorem jW{a:Cell}:cY u a=true<->a.op=u.op/\a.aU=u.aU/\a.key=u.key:=by
 simp only[cY,b9,iL];grind
def oa(k:Int)(xs:List Cell)(u:Cell):Prop:=if k=6 then u∈xs else ∃a∈xs,cY u a=true/\a.val<=u.val
theorem OA(xs:List Cell)(u:Cell):(e0 xs u).2=false<->∃a∈xs,cY u a=true/\a.val<=u.val:=by
 unfold e0;constructor
 ·intro h;split at h
  ·rename_i al;simp only[b9,cc]at al;rcases XV u.op u.aU u.key xs (0,false) al.1 with⟨h1,_⟩ | ⟨a,ae,h1,U⟩
   ·cases h1
   simp only[te,cc]at h1;exact⟨a,ae,jW.2 h1,by rw[U];exact al.2⟩
  cases h
 rintro⟨a,ae,h1,U⟩;obtain⟨b8,bt⟩:=Xr ae (op:=u.op) (ep:=u.aU) (key:=u.key) (by simp only[te,cc];exact jW.1 h1);grind
variable{k:Int}
theorem z'(hk:k=5\/k=6\/k=8)(xs:List Cell)(u:Cell):(cm k xs u).2=false<->oa k xs u:=by
 unfold cm oa;by_cases bu:k=6
 ·rw[bh bu,bh bu,<-Pe];grind
 simp_all[bq,bh,OA]
theorem uT(a':k≠5)(bu:k≠6)(cI:k≠8)(xs:List Cell)(u:Cell):cm k xs u=(xs,true):=by
 simp_all[cm,bq]
theorem XW(h:(cm k xs u).2=false):(cm k xs u).1=xs:=by
 unfold cm at h ⊢;split
 ·grind
 rename_i bu;rw[bq bu]at h;split
 ·simp_all[bh,Ii]
 rfl
theorem AZ{k:Int}(hk:k=5\/k=6\/k=8){xs:List Cell}{u z:Cell}(h:(cm k xs u).2=true):z∈(cm k xs u).1<->z=u\/(z∈xs/\(k≠6->cY u z=false)):=by
 unfold cm at h ⊢;by_cases bu:k=6
 ·rw[bh bu]at h ⊢;split
  ·grind
  grind[Oz,id,absurd]
 rw[bq bu,bh (by omega)]at h ⊢;unfold e0 at h ⊢;split
 ·grind
 grind[Oz,gQ,id]
theorem ass{cf:Int}(hk:k=5\/k=6\/k=8){y:Cell}(kZ:y.op=u.op->cf=k)(h:oa k xs u):oa k (cm cf xs y).1 u:=by
 cases aB:(cm cf xs y).2 with
 | false=>grind[XW]
 | true=>
  by_cases kd:cf=5\/cf=6\/cf=8
  case neg=>grind[uT]
  unfold oa at h ⊢;by_cases bu:k=6
  ·rw[bh bu]at h ⊢;rw[AZ kd aB];refine .inr ⟨h,fun cU=>?_⟩;rw[u5];intro ai;exact cU ((kZ (jW.1 ai).1.symm).trans bu)
  rw[bq bu]at h ⊢;obtain⟨a,ae,ai,bD⟩:=h;obtain⟨s1,s2,sc⟩:=jW.1 ai;by_cases zC:cf≠6/\cY y a=true
  ·obtain⟨t1,t2,t3⟩:=jW.1 zC.2;refine⟨y,(AZ kd aB).2 (.inl rfl),jW.2 ⟨by omega,by omega,by omega⟩,?_⟩;have nb:¬oa cf xs y:=fun q=>by grind[z']
   unfold oa at nb;grind
  refine⟨a,(AZ kd aB).2 (.inr ⟨ae,fun cU=>?_⟩),ai,bD⟩;grind
theorem ast(hk:k=5\/k=6\/k=8)(h:(cm k xs u).2=true):oa k (cm k xs u).1 u:=by
 have hm:=(AZ hk (z:=u) h).2 (.inl rfl);unfold oa;split
 ·exact hm
 exact⟨u,hm,jW.2 ⟨rfl,rfl,rfl⟩,Int.le_refl _⟩
variable{x:Node}{g:bF}
theorem XX{op:Int}(h:dZ g op=some x):0<=op/\g.nodes[op.toNat]?=some x:=by
 grind[dZ]
theorem A0(ar:dg g=true){op:Int}(h:dZ g op=some x):aO x=true:=by
 simp only[dg,b9,gQ]at ar;have:=AU ar.2 op.toNat x (XX h).2;simp_all[dV,jq,fw,jf]
variable{r:ay}
theorem A1(h:dM r=true):ey r.key r.val=true:=by
 simp_all[dM,b9]
theorem XY{cs:List Cell}(ar:dg g=true)(aB:dM r=true)(aa:dZ g r.op=some x):(dh g cs r).1=(cm x.kind cs (cellOf r)).1:=by
 have aP:=A0 ar aa;have hi:=A1 aB;unfold dh;rw[aa];simp only[dY,ar,aB,Bool.and_self,fU];split
 ·rename_i al;simp only[b9,gQ,bne_iff_ne,lc]at al;have aA:x.kind=3:=by
   refine Classical.byContradiction fun aA=>?_
   have:=al.1;unfold b3 at this;grind
  grind[uT]
 split
 ·rfl
 ·split<;>rfl
theorem OB{cs:List Cell}(ar:dg g=true)(aB:dM r=true)(aa:dZ g r.op=some x):(dh g cs r).2.1=
  if (!(b3 x r.key r.val).2.2&&x.kind != 8)=true then [] else if (cm x.kind cs (cellOf r)).2=false then []
  else if x.kind=7 then (if (eF r.bf).2=true then e4 x (eF r.bf).1 (b3 x r.key r.val).1 (b3 x r.key r.val).2.1 else []) else e4 x r.bf (b3 x r.key r.val).1 (b3 x r.key r.val).2.1:=by
 unfold dh;rw[aa];simp only[dY,ar,aB,Bool.and_self,fU];split
 ·rfl
 rw[show (⟨r.op,r.bf.aU,r.key,r.val⟩:Cell)=cellOf r from rfl];grind
end Go.Proofs.YtdchjefneblpgaaGreat
namespace Go.Proofs.YtdchjefneblpgaaGreat
open Go.Sx Go.RowKit Go.Proofs.Tryz
theorem XZ{P:Program}{c:Code}{α:Type}[DecidableEq α](xs ys:List α)(aj:xs.length=ys.length)(st:Nat->aD){e1 e2:hA}{X Y:aD}(zr:e1.pe≠.normal)(ql:e2.pe≠.normal)
  (mc:∀i a b,xs[i]?=some a->ys[i]?=some b->decide (a=b)=true->gi P c (st i) .normal (st (i+1))) (Cb:∀i a b,xs[i]?=some a->ys[i]?=some b->decide (a=b)=false->gi P c (st i) e1 X) (xm:gi P c (st xs.length) e2 Y):
  (xs=ys/\cN P c (st 0) e2 Y)\/(xs≠ys/\cN P c (st 0) e1 X):=by
 rcases Vt xs ys aj with h | ⟨i,a,b,h1,U,aA,aI⟩
 ·subst h;refine .inl ⟨rfl,dO ql xs.length st (fun i hi=>?_) xm⟩;obtain⟨a,ae⟩:=cV hi;exact mc i a a ae ae (by simp)
 refine .inr ⟨fun e=>by subst e;rw[h1]at U;exact aA (gX U),dO zr i st (fun j a8=>?_) (Cb i a b h1 U (by simpa using aA))⟩;obtain⟨c,al⟩:=cV (xs:=xs) (i:=j) (by have:=a6 h1;omega);exact mc j c c al (by rw[<-aI j a8];exact al) (by simp)
theorem Ta{b:Bool}(h:b=true):(!b)=false:=by rw[h];rfl
theorem S'{b:Bool}(h:b=false):(!b)=true:=by rw[h];rfl
theorem Gk{α β:Type}{f g:α->β}{xs ys:List α}(h:xs.length=ys.length):(((xs.map f).length:Int) != ((ys.map g).length:Int))=false:=by simp[h]
theorem X0{α β:Type}{f g:α->β}{xs ys:List α}(h:¬xs.length=ys.length):(((xs.map f).length:Int) != ((ys.map g).length:Int))=true:=by simp;omega
theorem asu{xs ys:List Cell}(aa:xs.length<=8388608):av 141 [.one (.J 4 (xs.map Cell.e)),.one (.J 4 (ys.map Cell.e))] [.one (B (decide (xs=ys)))]:=by
 by_cases aj:xs.length=ys.length
 ·have l:=XZ (P:=prog) (c:=(ap f141 0)) xs ys aj (fun i=>yk (xs.map Cell.e) (ys.map Cell.e) i) (X:=O1 false) eZ (ci 0)
   (fun i a b ae aq h=>aru ⟨bT (a6 ae),bx,bA (a6 ae),bw Cell.e ae,bx,bA (a6 aq),bw Cell.e aq,Ta ((xY a b).trans h),cP (a6 ae) aa,ad⟩)
   (fun i a b ae aq h=>art ⟨bT (a6 ae),bx,bA (a6 ae),bw Cell.e ae,bx,bA (a6 aq),bw Cell.e aq,S' ((xY a b).trans h),ad⟩)
   (arv ⟨dq,ad⟩)
  rcases l with⟨h,l⟩ | ⟨h,l⟩
  ·rw[dc h];exact arx ⟨Gk aj,l,ad⟩
  rw[dE h];exact arw ⟨Gk aj,l,ad⟩
 rw[dE (fun e=>aj (by rw[e]))];exact ars ⟨X0 aj,ad⟩
theorem asv(xs ys:List Cell)(aa:xs.length<=8388608):av 248 [.one (.J 4 (xs.map Cell.e)),.one (.J 4 (ys.map Cell.e))] [.one (B (decide (xs=ys)))]:=by
 by_cases aj:xs.length=ys.length
 ·have l:=XZ (P:=prog) (c:=(ap f248 0)) xs ys aj (fun i=>xM (xs.map Cell.e) (ys.map Cell.e) i) (X:=O2 false) eZ (ci 0)
   (fun i a b ae aq h=>arA ⟨bT (a6 ae),bx,bA (a6 ae),bw Cell.e ae,bx,bA (a6 aq),bw Cell.e aq,Ta ((xY a b).trans h),cP (a6 ae) aa,ad⟩)
   (fun i a b ae aq h=>arz ⟨bT (a6 ae),bx,bA (a6 ae),bw Cell.e ae,bx,bA (a6 aq),bw Cell.e aq,S' ((xY a b).trans h),ad⟩)
   (arB ⟨dq,ad⟩)
  rcases l with⟨h,l⟩ | ⟨h,l⟩
  ·rw[dc h];exact arD ⟨Gk aj,l,ad⟩
  rw[dE h];exact arC ⟨Gk aj,l,ad⟩
 rw[dE (fun e=>aj (by rw[e]))];exact ary ⟨X0 aj,ad⟩
theorem asw{xs ys:List Cell}(aa:xs.length<=8388608):av 132 [.one (.J 4 (xs.map Cell.e)),.one (.J 4 (ys.map Cell.e))] [.one (B (decide (xs=ys)))]:=
 arE ⟨asv xs ys aa,ad⟩
end Go.Proofs.YtdchjefneblpgaaGreat
namespace Go.Proofs.YtdchjefneblpgaaGreat
open Go.Sx Go.RowKit Go.Proofs.Tryz
theorem X1{n:Node}{x:Cell}{k v:Int}{i:Nat}{o:Int}(h:n.outs[i]?=some o):((n.outs.take (i+1)).map fun o=>(⟨o,x.aU,k,v⟩:Cell)).map Cell.e=((n.outs.take i).map fun o=>(⟨o,x.aU,k,v⟩:Cell)).map Cell.e++[[I o,I x.aU,I k,I v]]:=by
 simp[p6,h,Cell.e]
theorem asx(n:Node)(x:Cell)(key val:Int)(FD:Bool)(fX:List (List D))(aP:n.outs.length<=8388608):cN prog (ap f320 0) (xN x.op x.aU x.key x.val n.kind n.a n.b (n.outs.map bd) fX key val FD 0 []) (.exit 0) (Iy fX ((if FD then yR n x key val else []).map Cell.e)):=by
 cases FD with
 | false=>
  by_cases h:0<n.outs.length
  ·exact .last (ci 0) (arP ⟨dc (by simp only[cp];omega),rfl,ad⟩)
  exact .last (ci 0) (Yy ⟨dE (by simp only[cp];omega),ad⟩)
 | true=>
  have l:=dO (P:=prog) (c:=(ap f320 0)) (ci 0) n.outs.length (fun i:Nat=>xN x.op x.aU x.key x.val n.kind n.a n.b (n.outs.map bd) fX key val true i (((n.outs.take i).map fun o=>(⟨o,x.aU,key,val⟩:Cell)).map Cell.e)) (fun i hi=>by
   obtain⟨o,aW⟩:=cV hi;rw[X1 aW];exact arO ⟨bT hi,rfl,bx,bA hi,bw bd aW,by simp<;>omega,by simp<;>omega,fA (Cell.flat ⟨o,x.aU,key,val⟩),cP hi aP,ad⟩) (Yy ⟨dq,ad⟩)
  rw[h6]at l;exact l
theorem asy(n:Node)(x:Cell)(key val:Int)(fX:List (List D))(aP:n.outs.length<=8388608):cN prog (ap f251 0) (z6 x.op x.aU x.key x.val fX key val (n.outs.map bd) 0 []) (.exit 0) (O3 fX ((yR n x key val).map Cell.e)):=by
 have l:=dO (P:=prog) (c:=(ap f251 0)) (ci 0) n.outs.length (fun i:Nat=>z6 x.op x.aU x.key x.val fX key val (n.outs.map bd) i (((n.outs.take i).map fun o=>(⟨o,x.aU,key,val⟩:Cell)).map Cell.e)) (fun i hi=>by
  obtain⟨o,aW⟩:=cV hi;rw[X1 aW];exact arl ⟨bT hi,bx,bA hi,bw bd aW,by simp<;>omega,by simp<;>omega,fA (Cell.flat ⟨o,x.aU,key,val⟩),cP hi aP,ad⟩) (arm ⟨dq,ad⟩)
 rw[h6]at l;exact l
theorem asz(xs:List Cell)(x:Cell):cm 5 xs x=e0 xs x:=by
 unfold cm;rw[bq (by decide),bh (.inl rfl)]
theorem asA(g:bF)(best:List Cell)(x:Cell)(ar:g.sz<=8388608)(aj:best.length<=8388608):av 320 [.agg g.e,.one (.J 4 (best.map Cell.e)),.agg x.e] [.one (.J 4 ((h2 g best x).1.map Cell.e)),.one (.J 4 ((h2 g best x).2.map Cell.e))]:=by
 have eB:(([]:List (List D)).length+(best.map Cell.e).length)*32<=140737488355328:=by simp<;>omega
 have a2:([]:List (List D)).length+(best.map Cell.e).length<=9223372036854775807:=by simp<;>omega
 have a3:=dy _ Cell.flat best;unfold h2;cases h:dZ g x.op with
 | none=>exact arI ⟨eB,a2,a3,wG g x.op (⟨0,0,0,[]⟩,false) (by unfold qI;rw[h]) ar,rfl,ad⟩
 | some n=>
  dsimp only;have aP:=bF.xC ar (CS h);have de:=wG g x.op (n,true) (by unfold qI;rw[h]) ar;have c1:=CT g ar;have c2:=iw x.aU 0 3;have cw:=iw x.key 0 99;have et:=iw x.val 0 999;have fE:=Pb 5 best x aj;have gH:=V3 n x.key x.val aP;rw[asz]at fE;rw[show ey x.key x.val=(aw x.key 0 99&&aw x.val 0 999) from rfl];have cl:=fun fX=>asx n x (b3 n x.key x.val).1 (b3 n x.key x.val).2.1 (b3 n x.key x.val).2.2 fX aP
  have B6:=Ii (xs:=best) (x:=x);generalize dg g=eO at*;generalize aw x.aU 0 3=fo at*;generalize aw x.key 0 99=l7 at*;generalize aw x.val 0 999=xa at*;generalize e0 best x=JN at*;obtain⟨fX,JJ⟩:=JN;cases eO with
  | false=>exact arJ ⟨eB,a2,a3,de,rfl,c1,rfl,ad⟩
  | true=>
   cases fo with
   | false=>exact arK ⟨eB,a2,a3,de,rfl,c1,rfl,c2,rfl,ad⟩
   | true=>
    cases l7 with
    | false=>exact arL ⟨eB,a2,a3,de,rfl,c1,rfl,c2,rfl,cw,rfl,ad⟩
    | true=>
     cases xa with
     | false=>exact arM ⟨eB,a2,a3,de,rfl,c1,rfl,c2,rfl,cw,rfl,et,rfl,ad⟩
     | true=>
      cases JJ with
      | false=>
       have e:fX=best:=B6 rfl;subst e;exact arN ⟨eB,a2,a3,de,rfl,c1,rfl,c2,rfl,cw,rfl,et,rfl,fE,rfl,ad⟩
      | true=>exact ard ⟨eB,a2,a3,de,rfl,c1,rfl,c2,rfl,cw,rfl,et,rfl,fE,rfl,gH,cl _,ad⟩
theorem asB(g:bF)(best:List Cell)(x:Cell)(ar:g.sz<=8388608)(aj:best.length<=8388608):av 251 [.agg g.e,.one (.J 4 (best.map Cell.e)),.agg x.e] [.one (.J 4 ((h2 g best x).1.map Cell.e)),.one (.J 4 ((h2 g best x).2.map Cell.e))]:=by
 have c1:=wI g ar;have cK:=uL best aj;unfold h2;cases h:dZ g x.op with
 | none=>
  have cw:=s4 g x.op false (by rw[h];rfl) ar;generalize dg g=eO at*;cases eO with
  | false=>exact Yz ⟨c1,rfl,cK,ad⟩
  | true=>exact arf ⟨c1,rfl,cw,rfl,cK,ad⟩
 | some n=>
  dsimp only;have aP:=bF.xC ar (CS h);obtain⟨gv,gT,iX,_⟩:=xZ h;have de:=s4 g x.op true (by rw[h];rfl) ar;have c2:=lB x.aU 0 3;have cw:=N0 x.key x.val;have fE:=O' best x aj;have gH:=V4 n x.key x.val aP;have cl:=fun fX=>asy n x (b3 n x.key x.val).1 (b3 n x.key x.val).2.1 fX aP
  generalize dg g=eO at*;generalize aw x.aU 0 3=fo at*;generalize ey x.key x.val=l7 at*;generalize e0 best x=JN at*;generalize b3 n x.key x.val=aci at*;obtain⟨fX,JJ⟩:=JN;obtain⟨aCg,aCi,ab9⟩:=aci;cases eO with
  | false=>exact Yz ⟨c1,rfl,cK,ad⟩
  | true=>
   cases fo with
   | false=>exact arh ⟨c1,rfl,de,rfl,c2,rfl,cK,ad⟩
   | true=>
    cases l7 with
    | false=>exact ari ⟨c1,rfl,de,rfl,c2,rfl,cw,rfl,cK,ad⟩
    | true=>
     cases JJ with
     | false=>exact arj ⟨c1,rfl,de,rfl,c2,rfl,cw,rfl,fE,gv,gT,iX,gH,rfl,ad⟩
     | true=>
      cases ab9 with
      | false=>exact ark ⟨c1,rfl,de,rfl,c2,rfl,cw,rfl,fE,gv,gT,iX,gH,rfl,rfl,ad⟩
      | true=>exact arn ⟨c1,rfl,de,rfl,c2,rfl,cw,rfl,fE,gv,gT,iX,gH,rfl,rfl,gv,gT,iX,cl _,ad⟩
theorem Z3(x:Cell)(l more:List Cell):List.take (((x::l).map Cell.e).length-1) (List.drop 1 ((x::l).map Cell.e))++more.map Cell.e=(l++more).map Cell.e:=by
 rw[iM,List.drop_succ_cons,va,wV (by simp),gF]
theorem IA{e:Int}{best l:List Cell}:l.length<=tv best l:=by unfold tv;omega
theorem X2(g:bF)(e:Int)(ar:g.sz<=8388608):∀(k:Nat) (best l:List Cell),l5 e best->(∀a∈l,a.aU=e)->tv best l<=k->k<=16000000->
  cN prog (ap f254 1) (z7 (g.nodes.map Node.e) g.ao g.cap (l.map Cell.e) (best.map Cell.e)) (.exit 2) (O5 ((vm g k best l).map Cell.e))
 | 0,best,l,_,_,hk,_=>by
  have aj:l=[]:=u' (by have:=IA (e:=e) (best:=best) (l:=l);omega);subst aj;exact .last (ci 2) (YA ⟨rfl,ad⟩)
 | k+1,best,[],_,_,_,_=>.last (ci 2) (YA ⟨rfl,ad⟩)
 | k+1,best,x::l,aq,aj,hk,ru=>by
  have aa:=aj x (by simp);obtain⟨h1,U,_,aI⟩:=DT (g:=g) aq aa;have ai:=Pg (g:=g) (l:=l) aq aa;have hle:=IA (e:=e) (best:=best) (l:=x::l);rw[fO]at hle;have tY:=Pf aq;have dL:=X2 g e ar k (h2 g best x).1 (l++(h2 g best x).2) h1 (fun a ae=>by
   rcases gg.1 ae with ae | ae
   ·exact aj a (by simp[ae])
   exact U a ae) (by omega) (by omega)
  have s:=asA g best x ar (by omega);refine .more (u0 (fun q=>z7 (g.nodes.map Node.e) g.ao g.cap q ((h2 g best x).1.map Cell.e)) (asU ⟨dc (by simp<;>omega),by omega,by simp<;>omega,rfl,s,by simp,by simp<;>omega,by simp,by simp<;>omega,by simp<;>omega,?_,by simp<;>omega,by simp<;>omega,dy _ Cell.flat _,ad⟩) ?_) dL
  ·simp only[iM,List.drop_succ_cons,va];rw[wV (by simp)];exact dy _ Cell.flat l
  rw[List.nil_append];exact Z3 x l _
theorem X3(g:bF)(e:Int)(ar:g.sz<=8388608):∀(k:Nat) (best l:List Cell),l5 e best->(∀a∈l,a.aU=e)->tv best l<=k->k<=16000000->
  cN prog (ap f135 1) (z8 (g.nodes.map Node.e) g.ao g.cap (l.map Cell.e) (best.map Cell.e)) (.exit 2) (O7 ((vm g k best l).map Cell.e))
 | 0,best,l,_,_,hk,_=>by
  have aj:l=[]:=u' (by have:=IA (e:=e) (best:=best) (l:=l);omega);subst aj;exact .last (ci 2) (YB ⟨rfl,ad⟩)
 | k+1,best,[],_,_,_,_=>.last (ci 2) (YB ⟨rfl,ad⟩)
 | k+1,best,x::l,aq,aj,hk,ru=>by
  have aa:=aj x (by simp);obtain⟨h1,U,_,aI⟩:=DT (g:=g) aq aa;have ai:=Pg (g:=g) (l:=l) aq aa;have hle:=IA (e:=e) (best:=best) (l:=x::l);rw[fO]at hle;have tY:=Pf aq;have dL:=X3 g e ar k (h2 g best x).1 (l++(h2 g best x).2) h1 (fun a ae=>by
   rcases gg.1 ae with ae | ae
   ·exact aj a (by simp[ae])
   exact U a ae) (by omega) (by omega)
  have s:=asB g best x ar (by omega);exact .more (u0 (fun q=>z8 (g.nodes.map Node.e) g.ao g.cap q ((h2 g best x).1.map Cell.e)) (asZ ⟨dc (by simp<;>omega),by omega,by simp<;>omega,rfl,s,by simp,by simp<;>omega,by simp,by simp<;>omega,by simp<;>omega,dy _ Cell.flat _,ad⟩) (Z3 x l _)) dL
theorem asC(g:bF)(e:Int)(xs:List ay)(aj:xs.length<=8388608):cN prog (ap f254 0) (ti e (xs.map ay.e) 0 [] (g.nodes.map Node.e) g.ao g.cap) (.exit 0) (O4 ((lS e xs).map Cell.e) (g.nodes.map Node.e) g.ao g.cap):=by
 let p:=fun r:ay=>r.bf.aU==e&&dM r
 have e1:(xs.filter p).map (cellsOf e)=lS e xs:=by simp only[lS,iI,List.filter_filter,p];congr 2;funext r;rw[Bool.and_comm]
 have l:=dO (P:=prog) (c:=(ap f254 0)) (ci 0) xs.length (fun i:Nat=>ti e (xs.map ay.e) i ((((xs.take i).filter p).map (cellsOf e)).map Cell.e) (g.nodes.map Node.e) g.ao g.cap) (fun i hi=>by
  obtain⟨a,ae⟩:=cV hi;have br:=s0 p xs i;have ai:=pM p ae;have c:=s8 a;cases h1:a.bf.aU==e with
  | false=>
   have hp:p a=false:=by simp only[p,h1,Bool.false_and]
   rw[bq (by simp[hp]),gR]at ai;rw[ai];exact asS ⟨bT hi,bx,bA hi,bw ay.e ae,h1,cP hi aj,ad⟩
  | true=>
   cases U:dM a with
   | false=>
    have hp:p a=false:=by simp only[p,h1,U,Bool.and_false]
    rw[bq (by simp[hp]),gR]at ai;rw[U]at c;rw[ai];exact asR ⟨bT hi,bx,bA hi,bw ay.e ae,h1,c,rfl,cP hi aj,ad⟩
   | true=>
    have hp:p a=true:=by simp only[p,h1,U,tF]
    rw[bh hp]at ai;rw[U]at c;rw[ai,gF,gF];exact aro ⟨bT hi,bx,bA hi,bw ay.e ae,h1,c,rfl,by simp<;>omega,by simp<;>omega,fA (cellsOf e a).flat,cP hi aj,ad⟩) (asT ⟨dq,ad⟩)
 rw[h6,e1]at l;exact l
theorem asD(g:bF)(e:Int)(xs:List ay)(aj:xs.length<=8388608):cN prog (ap f135 0) (we e (xs.map ay.e) 0 [] (g.nodes.map Node.e) g.ao g.cap) (.exit 0) (O6 (((xs.filter dM).map (cellsOf e)).map Cell.e) (g.nodes.map Node.e) g.ao g.cap):=by
 have l:=dO (P:=prog) (c:=(ap f135 0)) (ci 0) xs.length (fun i:Nat=>we e (xs.map ay.e) i ((((xs.take i).filter dM).map (cellsOf e)).map Cell.e) (g.nodes.map Node.e) g.ao g.cap) (fun i hi=>by
  obtain⟨a,ae⟩:=cV hi;have br:=s0 dM xs i;have ai:=pM dM ae;have c:=rZ a;cases U:dM a with
  | false=>
   rw[bq (by simp[U]),gR]at ai;rw[U]at c;rw[ai];exact asX ⟨bT hi,bx,bA hi,bw ay.e ae,c,rfl,cP hi aj,ad⟩
  | true=>
   rw[bh U]at ai;rw[U]at c;rw[ai,gF,gF];exact asW ⟨bT hi,bx,bA hi,bw ay.e ae,c,rfl,by simp<;>omega,by simp<;>omega,fA (cellsOf e a).flat,cP hi aj,ad⟩) (asY ⟨dq,ad⟩)
 rw[h6]at l;exact l
theorem asE(g:bF)(e:Int)(xs:List ay)(ar:g.sz<=8388608)(aj:xs.length<=8388608):av 254 [.agg g.e,.one (I e),.one (.J 5 (xs.map ay.e))] [.one (.J 4 ((r0 g e xs).map Cell.e))]:=by
 have h1:=Xw e xs;exact asV ⟨asC g e xs aj,X2 g e ar _ [] (lS e xs) (Ij e) Ik (Nat.le_of_eq (Ph)) (by unfold rounds;omega),ad⟩
theorem asF(g:bF)(e:Int)(xs:List ay)(ar:g.sz<=8388608)(aj:xs.length<=8388608):av 135 [.agg g.e,.one (I e),.one (.J 5 (xs.map ay.e))] [.one (.J 4 ((r0 g e xs).map Cell.e))]:=by
 have h1:=Xw e xs;have U:(iI e xs).length<=8388608:=mW (l3 ..) aj;exact as0 ⟨Ig xs e aj,asD g e (iI e xs) U,X3 g e ar _ [] (lS e xs) (Ij e) Ik (Nat.le_of_eq (Ph)) (by unfold rounds;omega),ad⟩
def tj(g:bF)(e:Int)(xs:List ay):List Cell:=s3 g (r0 g e xs)
theorem X4(g:bF)(e:Int)(xs:List ay):(r0 g e xs).length<=8388608:=by
 have:=Pf (Xx g e xs);omega
def IB(c:aV)(xs:List ay)(e:Int):Bool:=decide (n4 c e=tj c.ax e xs)
theorem asG(g:bF)(e:Int)(xs:List ay)(ar:g.sz<=8388608)(aj:xs.length<=8388608):av 142 [.agg g.e,.one (I e),.one (.J 5 (xs.map ay.e))] [.one (.J 4 ((tj g e xs).map Cell.e))]:=
 as1 ⟨asE g e xs ar aj,VR g _ ar (X4 g e xs),ad⟩
theorem asH(c:aV)(xs:List ay)(e:Int)(al:c.sz<=8388608)(aj:xs.length<=8388608):av 26 [.agg c.e,.one (.J 5 (xs.map ay.e)),.one (I e)] [.one (B (IB c xs e))]:=
 as3 ⟨NS c e al,asG c.ax e xs (aV.FE al) aj,asu (Hq al),ad⟩
theorem X5(g:bF)(e:Int)(xs:List ay)(ar:g.sz<=8388608)(aj:xs.length<=8388608):av 21 [.agg g.e,.one (I e),.one (.J 5 (xs.map ay.e))] [.one (.J 4 ((tj g e xs).map Cell.e))]:=
 as2 ⟨asF g e xs ar aj,VS g _ ar (X4 g e xs),ad⟩
theorem X6(c:aV)(xs:List ay)(e:Int)(al:c.sz<=8388608)(aj:xs.length<=8388608):av 18 [.agg c.e,.one (.J 5 (xs.map ay.e)),.one (I e)] [.one (B (IB c xs e))]:=
 as4 ⟨VT c e al,X5 c.ax e xs (aV.FE al) aj,asw (Hq al),ad⟩
end Go.Proofs.YtdchjefneblpgaaGreat
namespace Go.Proofs.YtdchjefneblpgaaGreat
open Go.Sx Go.RowKit Go.Proofs.Tryz
def j4(g:bF)(x:Cell):List Cell:=match dZ g x.op with
 | none=>[]
 | some n=>if (b3 n x.key x.val).2.2=true then yR n x (b3 n x.key x.val).1 (b3 n x.key x.val).2.1 else []
def gY(H:Cell->Prop)(x:Cell):Prop:=∃a,H a/\cY x a=true/\a.val<=x.val
def Fits(g:bF)(x:Cell):Prop:=(∃n,dZ g x.op=some n)/\ey x.key x.val=true/\0<=x.aU/\x.aU<=3
theorem IC(x:Cell):cY x x=true:=jW.2 ⟨rfl,rfl,rfl⟩
variable{x y:Cell}
theorem OC(h:cY x y=true):cY y x=true:=by
 obtain⟨h1,U,aA⟩:=jW.1 h;exact jW.2 ⟨h1.symm,U.symm,aA.symm⟩
theorem wg{z:Cell}(h:cY x y=true)(k:cY y z=true):cY x z=true:=by
 obtain⟨h1,U,aA⟩:=jW.1 h;obtain⟨b8,bt,eL⟩:=jW.1 k;exact jW.2 ⟨b8.trans h1,bt.trans U,eL.trans aA⟩
variable{H:Cell->Prop}
theorem gY.self(h:H x):gY H x:=⟨x,h,IC x,Int.le_refl _⟩
theorem gY.mono{K:Cell->Prop}(h:gY H x)(hk:∀a,H a->gY K a):gY K x:=by
 obtain⟨a,ae,h1,U⟩:=h;obtain⟨b,aq,b8,bt⟩:=hk a ae;exact⟨b,aq,wg h1 b8,Br bt U⟩
theorem gY.less(h:gY H x)(ai:cY y x=true)(bD:x.val<=y.val):gY H y:=by
 obtain⟨a,ae,h1,U⟩:=h;exact⟨a,ae,wg ai h1,Br U bD⟩
theorem asI{n:Node}{k v:Int}(aP:aO n=true)(hi:ey k v=true):ey (b3 n k v).1 (b3 n k v).2.1=true:=by
 have dw:bN n=true:=by
  unfold aO at aP;simp only[b9]at aP;exact aP.1.1.1.1
 unfold b3;rw[aP,hi];simp only[Bool.and_self,fU];simp only[ey,aw,b9,cc]at hi ⊢;split
 ·rename_i U;unfold bN at dw;rw[bh U]at dw;simp only[aw,b9,cc]at dw;dsimp only[less];split<;>omega
 split
 ·rename_i U aI;unfold bN at dw;rw[bq U,bq (by omega),bh aI]at dw;simp only[aw,b9,cc]at dw;dsimp only;rw[Int.tmod_eq_emod_of_nonneg (by omega)];omega
 split
 ·exact hi
 exact hi
variable{g:bF}
theorem OD{a:Cell}(ar:dg g=true)(aa:ey x.key x.val=true)(ae:ey a.key a.val=true)(ai:cY x a=true)(bD:a.val<=x.val):∀y∈j4 g x,∃z∈j4 g a,cY y z=true/\z.val<=y.val:=by
 obtain⟨h1,U,aA⟩:=jW.1 ai;intro y bk;unfold j4 at bk ⊢;rw[h1];cases aP:dZ g x.op with
 | none=>rw[aP]at bk;cases bk
 | some n=>
  rw[aP]at bk;dsimp only at bk ⊢;have nk:=A0 ar aP;rw[aA]at ae ⊢;have key:(b3 n x.key a.val).1=(b3 n x.key x.val).1/\(b3 n x.key a.val).2.1<=(b3 n x.key x.val).2.1/\(b3 n x.key a.val).2.2=(b3 n x.key x.val).2.2:=by
   unfold b3;rw[nk,aa,ae];simp only[Bool.and_self,fU];split
   ·refine⟨rfl,?_,rfl⟩;dsimp only[less];split<;>split<;>omega
   split
   ·exact⟨rfl,bD,rfl⟩
   split
   ·exact⟨rfl,bD,rfl⟩
   exact⟨rfl,bD,rfl⟩
  obtain⟨b8,bt,eL⟩:=key;rw[b8,eL];split at bk
  ·rename_i mc;rw[bh mc];obtain⟨o,aW,rfl⟩:=fV.1 bk;refine⟨⟨o,a.aU,(b3 n x.key x.val).1,(b3 n x.key a.val).2.1⟩,fV.2 ⟨o,aW,rfl⟩,jW.2 ⟨rfl,U,rfl⟩,bt⟩
  cases bk
theorem asJ(ar:dg g=true){op:Int}{n:Node}(aP:dZ g op=some n):∀o∈n.outs,∃m,dZ g o=some m:=by
 intro o aW;have nk:=A0 ar aP;have bE:0<=o:=by
  unfold aO at nk;simp only[b9]at nk;have:=Hr nk.2 aW;simp only[aw,cc]at this;exact this.1
 have aq:=ar;simp only[dg,b9,gQ]at aq;have:=AU aq.2 op.toNat n (XX aP).2;rw[dV]at this;simp only[jq,fw,fm]at this;have he:=this.2 o aW;unfold gK at he;simp only[oi,cc,not_or,Int.not_le]at he;unfold dZ;rw[bh bE];exact cV (by omega)
theorem OE(ar:dg g=true)(aa:Fits g x):∀y∈j4 g x,Fits g y:=by
 intro y bk;obtain⟨⟨n,aP⟩,hi,he⟩:=aa;unfold j4 at bk;rw[aP]at bk;dsimp only at bk;split at bk
 ·obtain⟨o,aW,rfl⟩:=fV.1 bk;exact⟨asJ ar aP o aW,asI (A0 ar aP) hi,he⟩
 cases bk
structure y1 (g:bF) (ins best l:List Cell):Prop where
 ins:∀x∈ins,gY (fun a=>a∈best\/a∈l) x
 closed:∀x∈best,∀y∈j4 g x,gY (fun a=>a∈best\/a∈l) y
 fit:∀x,x∈best\/x∈l->Fits g x
theorem X7{xs:List Cell}(h:(e0 xs x).2=true)(z:Cell):z∈(e0 xs x).1<->z=x\/(z∈xs/\cY x z=false):=by
 have:=AZ (k:=8) (xs:=xs) (u:=x) (z:=z) (.inr (.inr rfl)) (by unfold cm;rw[bq (by decide),bh (.inr rfl)];exact h);unfold cm at this;rw[bq (by decide),bh (.inr rfl)]at this;rw[this];exact⟨fun q=>q.imp id fun q=>⟨q.1,q.2 (by decide)⟩,fun q=>q.imp id fun q=>⟨q.1,fun _=>q.2⟩⟩
theorem X8(ar:dg g=true){best:List Cell}(aa:Fits g x):
  ((e0 best x).2=false/\h2 g best x=(best,[]))\/((e0 best x).2=true/\h2 g best x=((e0 best x).1,j4 g x)):=by
 obtain⟨⟨n,aP⟩,hi,he⟩:=aa;have aB:aw x.aU 0 3=true:=by simp only[aw,cc];exact he
 unfold h2 j4;rw[aP];dsimp only;rw[ar,aB,hi];simp only[Bool.and_self,fU];cases aq:(e0 best x).2 with
 | false=>exact .inl ⟨rfl,by rw[Ii aq];simp⟩
 | true=>exact .inr ⟨rfl,by simp⟩
theorem y1.step(ar:dg g=true){ins best l:List Cell}(h:y1 g ins best (x::l)):y1 g ins (h2 g best x).1 (l++(h2 g best x).2):=by
 have aa:=h.fit x (.inr (fN ..));rcases X8 ar (best:=best) aa with⟨aq,e⟩ | ⟨aq,e⟩
 ·rw[e];obtain⟨a,ae,b8,bt⟩:=(OA best x).1 aq;have up:∀z,(z∈best\/z∈x::l)->gY (fun a=>a∈best\/a∈l++[]) z:=fun z aL=>by
   rcases aL with aL | aL
   ·exact .self (.inl aL)
   rcases dQ.1 aL with rfl | aL
   ·exact⟨a,.inl ae,b8,bt⟩
   exact .self (.inr (by simpa using aL))
  exact⟨fun z aL=>(h.ins z aL).mono up,fun z aL y bk=>(h.closed z aL y bk).mono up,fun z aL=>h.fit z (aL.imp id fun q=>ff _ (by simpa using q))⟩
 rw[e];have mem:=X7 aq;have nb:∀a∈best,cY x a=true->x.val<=a.val:=fun a ae ai=>by
  refine Classical.byContradiction fun bD=>?_
  have:=(OA best x).2 ⟨a,ae,ai,by omega⟩;rw[aq]at this;cases this
 have up:∀z,(z∈best\/z∈x::l)->gY (fun a=>a∈(e0 best x).1\/a∈l++j4 g x) z:=fun z aL=>by
  rcases aL with aL | aL
  ·by_cases ai:cY x z=true
   ·exact⟨x,.inl ((mem x).2 (.inl rfl)),OC ai,nb z aL ai⟩
   exact .self (.inl ((mem z).2 (.inr ⟨aL,by simpa using ai⟩)))
  rcases dQ.1 aL with rfl | aL
  ·exact .self (.inl ((mem z).2 (.inl rfl)))
  exact .self (.inr (gE _ aL))
 refine⟨fun z aL=>(h.ins z aL).mono up,fun z aL y bk=>?_,fun z aL=>?_⟩
 ·rcases (mem z).1 aL with rfl | ⟨aL,_⟩
  ·exact .self (.inr (hP _ bk))
  exact (h.closed z aL y bk).mono up
 rcases aL with aL | aL
 ·rcases (mem z).1 aL with rfl | ⟨aL,_⟩
  ·exact aa
  exact h.fit z (.inl aL)
 rcases gg.1 aL with aL | aL
 ·exact h.fit z (.inr (ff _ aL))
 exact OE ar aa z aL
variable{e:Int}
theorem X9(ar:dg g=true){ins:List Cell}:∀(k:Nat) (best l:List Cell),l5 e best->(∀a∈l,a.aU=e)->tv best l<=k->y1 g ins best l->y1 g ins (vm g k best l) []
 | 0,best,l,_,_,hk,h=>by
  have:l=[]:=by
   unfold tv at hk;exact List.length_eq_zero_iff.1 (by omega)
  subst this;exact h
 | k+1,best,[],_,_,_,h=>h
 | k+1,best,x::l,aq,aj,hk,h=>by
  have sM:=aj x (fN ..);obtain⟨h1,U,_,_⟩:=DT (g:=g) aq sM;have bG:=Pg (g:=g) (l:=l) aq sM;refine X9 ar k _ _ h1 (fun a ae=>?_) (by omega) (h.step ar);rcases gg.1 ae with ae | ae
  ·exact aj a (ff _ ae)
  exact U a ae
variable{xs:List ay}
theorem OF(ar:dg g=true)(he:0<=e/\e<=3):∀x∈lS e xs,Fits g x:=by
 intro x aa;simp only[lS,fV,List.mem_filter]at aa;obtain⟨r,⟨_,aB⟩,rfl⟩:=aa;have aj:1<=(g.nodes.length:Int):=by
  simp only[dg,b9,aw,cc]at ar;omega
 refine⟨?_,A1 aB,he⟩;change ∃n,dZ g 0=some n;unfold dZ;rw[bh (by decide)];exact cV (by change (0:Int).toNat<_;omega)
theorem X'(ar:dg g=true)(he:0<=e/\e<=3)(xs:List ay):y1 g (lS e xs) (r0 g e xs) []:=
 X9 ar _ [] (lS e xs) (Ij e) Ik (Nat.le_of_eq (Ph)) ⟨fun x aa=>.self (.inr aa),fun x aa=>(by cases aa),fun x aa=>OF ar he x (aa.resolve_left (by simp))⟩
theorem Ya(ar:dg g=true)(br:∀x,H x->ey x.key x.val=true)(al:∀x,H x->∀y∈j4 g x,gY H y):∀(k:Nat) (best l:List Cell),(∀x,x∈best\/x∈l->Fits g x/\gY H x)->∀x∈vm g k best l,gY H x
 | 0,best,l,h,x,aa=>(h x (.inl aa)).2
 | k+1,best,[],h,x,aa=>(h x (.inl aa)).2
 | k+1,best,a::l,h,x,aa=>by
  have ae:=h a (.inr (fN ..));refine Ya ar br al k (h2 g best a).1 (l++(h2 g best a).2) (fun z aL=>?_) x aa;rcases X8 ar (best:=best) ae.1 with⟨_,e⟩ | ⟨aq,e⟩
  ·rw[e]at aL;exact h z (aL.imp id fun q=>ff _ (by simpa using q))
  rw[e]at aL;rcases aL with aL | aL
  ·rcases (X7 aq z).1 aL with rfl | ⟨aL,_⟩
   ·exact ae
   exact h z (.inl aL)
  rcases gg.1 aL with aL | aL
  ·exact h z (.inr (ff _ aL))
  refine⟨OE ar ae.1 z aL,?_⟩;obtain⟨b,gj,b8,bt⟩:=ae.2;obtain⟨w,hw,w1,hM⟩:=OD ar ae.1.2.1 (br b gj) b8 bt z aL;exact (al b gj w hw).less w1 hM
theorem asK(ar:dg g=true)(he:0<=e/\e<=3)(br:∀x,H x->ey x.key x.val=true)(al:∀x,H x->∀y∈j4 g x,gY H y)(hi:∀x∈lS e xs,gY H x):∀x∈r0 g e xs,gY H x:=
 Ya ar br al _ [] _ fun x aa=>⟨OF ar he x (aa.resolve_left (by simp)),hi x (aa.resolve_left (by simp))⟩
theorem asL{xs:List Cell}(x:Cell)(h:xs.Pairwise fun a b=>fS a b<0):(e0 xs x).1.Pairwise fun a b=>fS a b<0:=by
 unfold e0;split
 ·exact h
 exact Pn x (h.filter _)
theorem Yb:∀(k:Nat) (best l:List Cell),(best.Pairwise fun a b=>fS a b<0)->(vm g k best l).Pairwise fun a b=>fS a b<0
 | 0,_,_,h=>h
 | _+1,_,[],h=>h
 | k+1,best,x::l,h=>by
  refine Yb k _ _ ?_;unfold h2;split
  ·exact h
  split
  ·exact asL x h
  exact h
theorem asM:(r0 g e xs).Pairwise fun a b=>fS a b<0:=Yb _ _ _ List.Pairwise.nil
theorem Yc:∀{xs:List Cell},l5 e xs->∀{a b:Cell},a∈xs->b∈xs->cY a b=true->a=b
 | [],_,_,_,ae,_,_=>by cases ae
 | x::xs,h,a,b,ae,aq,ai=>by
  have aP:=h.apart;rw[iM,List.nodup_cons]at aP;have bG:l5 e xs:=⟨fun b aq=>h.kR b (ff _ aq),aP.2⟩
  have J:=(Ih (h.kR b aq) (h.kR a ae)).1 ai;rcases dQ.1 ae with rfl | xg
  ·rcases dQ.1 aq with rfl | er
   ·rfl
   exact absurd (fV.2 ⟨b,er,J⟩) aP.1
  rcases dQ.1 aq with rfl | er
  ·exact absurd (fV.2 ⟨a,xg,J.symm⟩) aP.1
  exact Yc bG xg er ai
