import Derived.Test.YtdchjefneblpgaaGreatP31
import Derived.Test.YtdchjefneblpgaaGreatP43
import Derived.Test.YtdchjefneblpgaaGreatGY
set_option linter.unusedVariables false
set_option linter.unusedSimpArgs false
namespace Go.Proofs.YtdchjefneblpgaaGreat
open Go.Sx Go.RowKit Go.Proofs.Tryz
def nF(r:ay):Bool:=!dM r||r.op != 0||r.bf.dG != 0
def uv(g:bF)(xs:List ay)(w e:Int):List ay:=xs.filter fun r=>r.bf.aU==e&&ec r.key g.ao==w
def nu(g:bF)(xs:List ay)(w:Int)(n:Nat):List ay:=(List.range n).flatMap fun e=>uv g xs w (e:Nat)
def own(g:bF)(xs:List ay)(w:Int):List ay:=nu g xs w 4
def mm(xs:List ay):aN:=⟨[],[],xs,[],List.replicate 4 0,List.replicate 4 false,List.replicate 4 false,[]⟩
def kp(cap:Int):bC:=⟨hG cap 1 4,[],hG cap 1 4,0,0,0⟩
def wO:bO:=⟨false,0,0,false,false⟩
def mO(g:bF)(xs:List ay)(n:Nat):List aN:=(List.range n).map fun w=>mm (own g xs (w:Nat))
def dn(g:bF)(xs:List ay):aV:=⟨g,mO g xs g.ao.toNat,List.replicate (g.ao.toNat*g.ao.toNat) (kp g.cap),List.replicate 4 wO,[]⟩
def Yl:aV:=⟨⟨[],0,0⟩,[],[],[],[]⟩
def iY(g:bF)(xs:List ay):Bool:=dg g&&decide (xs.length<=20)&&!xs.any nF
def v'(g:bF)(xs:List ay):aV×Bool:=if iY g xs then (dn g xs,true) else (Yl,false)
theorem OP(g:bF)(xs:List ay)(w:Int)(n:Nat):nu g xs w (n+1)=nu g xs w n++uv g xs w (n:Nat):=by
 simp[nu,List.range_succ]
theorem Ym(g:bF)(xs:List ay)(w:Int)(n:Nat):(nu g xs w n).length<=n*xs.length:=by
 have h:=Ac (fun e:Nat=>uv g xs w (e:Nat)) xs.length (fun _=>l3 _ _) (List.range n);rwa[wZ]at h
variable{xs:List ay}
theorem OQ{g:bF}(aj:xs.length<=20)(w:Int):(own g xs w).length<=80:=by
 have:=Ym g xs w 4;unfold own;omega
theorem Yn{g:bF}(aj:xs.length<=20)(w:Int){n:Nat}(aP:n<4):(nu g xs w n).length<=60:=by
 have:=Ym g xs w n;have:n*xs.length<=3*20:=Nat.mul_le_mul (by omega) aj;omega
theorem Yo(g:bF)(xs:List ay)(n:Nat):mO g xs (n+1)=mO g xs n++[mm (own g xs (n:Nat))]:=by
 simp[mO,List.range_succ]
theorem wa(g:bF)(xs:List ay)(n:Nat):(mO g xs n).length=n:=by simp[mO]
theorem Yp{α:Type}{f:α->List D}{x:α}{m:Nat}:(List.replicate m x).map f++[f x]=(List.replicate (m+1) x).map f:=by
 rw[List.replicate_succ',gF];rfl
theorem aqf(g:bF)(xs:List ay)(w e:Int):uv g xs w e=(iI e xs).filter fun r=>ec r.key g.ao==w:=by
 unfold uv iI;rw[List.filter_filter]
 congr 1
 funext r;rw[Bool.and_comm]
theorem aqg(cap:Int):av 126 [.one (I cap)] [.agg (kp cap).e]:=aqF ⟨Hj cap 1 4,ad⟩
theorem aqh(cap:Int):av 184 [.one (I cap)] [.agg (kp cap).e]:=aqG ⟨NG cap 1 4,ad⟩
theorem aqi(aj:xs.length<=1000):av 124 [.one (.J 5 (xs.map ay.e))] [.agg (mm xs).e]:=
 aqH ⟨nl (by simp;omega),lx (by simp;omega),dy _ ay.flat _,by omega,by omega,by decide,by omega,by omega,by omega,by decide,by omega,by omega,by omega,by decide,by omega,ad⟩
theorem aqj(aj:xs.length<=1000):av 183 [.one (.J 5 (xs.map ay.e))] [.agg (mm xs).e]:=
 aqI ⟨DS xs (by omega),by omega,by omega,by decide,by omega,by omega,by omega,by decide,by omega,by omega,by omega,by decide,by omega,ad⟩
theorem aqk(g:bF)(xs:List ay)(w:Int)(aP:1<=g.ao/\g.ao<=4)(aj:xs.length<=20):av 125 [.agg g.e,.one (.J 5 (xs.map ay.e)),.one (I w)] [.one (.J 5 ((own g xs w).map ay.e))]:=by
 have jO:=fun (e:Nat) (he:e<4) (acc:List ay) (ae:acc.length<=100)=>dO (P:=prog) (c:=(ap f125 1)) (ci 2) xs.length (fun i:Nat=>uS (g.nodes.map Node.e) g.ao g.cap (xs.map ay.e) w e i ((acc++(xs.take i).filter fun r=>r.bf.aU==(e:Int)&&ec r.key g.ao==w).map ay.e)) (fun i hi=>by
  obtain⟨r,aB⟩:=cV hi;have br:((xs.take i).filter fun r=>r.bf.aU==(e:Int)&&ec r.key g.ao==w).length<=20:=by
   have:=l3 (fun r:ay=>r.bf.aU==(e:Int)&&ec r.key g.ao==w) (xs.take i);have:=DZ i xs;omega
  rw[pM _ aB];generalize (xs.take i).filter (fun r=>r.bf.aU==(e:Int)&&ec r.key g.ao==w)=eI at*;have gw:=Wb r.key g.ao (by omega);cases h1:(r.bf.aU==(e:Int)) with
  | false=>
   rw[Bool.false_and,bq (by decide),gR];exact aqA ⟨bT hi,bx,bA hi,bw ay.e aB,h1,cP hi (by omega),ad⟩
  | true=>
   cases U:(ec r.key g.ao==w) with
   | false=>
    rw[Bool.and_false,bq (by decide),gR];exact aqz ⟨bT hi,bx,bA hi,bw ay.e aB,h1,bx,bA hi,bw ay.e aB,gw,U,cP hi (by omega),ad⟩
   | true=>
    rw[tF,bh rfl,<-o5,An];exact aqy ⟨bT hi,bx,bA hi,bw ay.e aB,h1,bx,bA hi,bw ay.e aB,gw,U,bx,bA hi,bw ay.e aB,by simp;omega,by simp;omega,fA (ay.flat r),cP hi (by omega),ad⟩) (aqB ⟨dq,ad⟩)
 have fR:=dO (P:=prog) (c:=(ap f125 0)) (ci 0) 4 (fun n:Nat=>Ea (g.nodes.map Node.e) g.ao g.cap (xs.map ay.e) w n ((nu g xs w n).map ay.e)) (fun n aP=>by
  have:=jO n aP (nu g xs w n) (by have:=Yn (g:=g) aj w aP;omega);rw[h6,List.take_zero,List.filter_nil,gR]at this;rw[OP];exact aqC ⟨dc (by omega),this,⟨by omega,by omega⟩,ad⟩) (aqD ⟨dE (by omega),ad⟩)
 exact aqE ⟨fR,ad⟩
theorem wb{g:bF}(h:iY g xs=false):v' g xs=(Yl,false):=by unfold v';rw[h];rfl
theorem zX{g:bF}(h:iY g xs=true):v' g xs=(dn g xs,true):=by unfold v';rw[h];rfl
theorem aql(g:bF)(xs:List ay)(aj:xs.length<=20):
  (xs.any nF=false/\cN prog (ap f14 0) (r6 (xs.map ay.e) 0 0 0 (g.nodes.map Node.e) g.ao g.cap) (.exit 0) (OK (xs.map ay.e) 0 0 (g.nodes.map Node.e) g.ao g.cap))\/
  (xs.any nF=true/\cN prog (ap f14 0) (r6 (xs.map ay.e) 0 0 0 (g.nodes.map Node.e) g.ao g.cap) .ret (Aw false 0 0)):=by
 have l:=hf (P:=prog) (c:=(ap f14 0)) xs nF (fun i=>r6 (xs.map ay.e) i 0 0 (g.nodes.map Node.e) g.ao g.cap) (e1:=.ret) (e2:=.exit 0) (X:=fun _ _=>Aw false 0 0) eZ (ci 0)
  (fun i a ae h=>by
   simp only[nF,fw]at h;have hi:=a6 ae;exact aqY ⟨bT hi,bx,bA hi,bw ay.e ae,s8 a,h.1.1,bx,bA hi,bw ay.e ae,h.1.2,bx,bA hi,bw ay.e ae,h.2,cP hi (by omega),ad⟩)
  (fun i a ae h=>by
   have hi:=a6 ae;have fI:=s8 a;unfold nF at h;cases h1:(!dM a) with
   | true=>exact aqV ⟨bT hi,bx,bA hi,bw ay.e ae,fI,h1,ad⟩
   | false=>
    cases U:(a.op != 0) with
    | true=>exact aqW ⟨bT hi,bx,bA hi,bw ay.e ae,fI,h1,bx,bA hi,bw ay.e ae,U,ad⟩
    | false=>
     rw[h1,U,jz,jz]at h;exact aqX ⟨bT hi,bx,bA hi,bw ay.e ae,fI,h1,bx,bA hi,bw ay.e ae,U,bx,bA hi,bw ay.e ae,h,ad⟩)
  (aqZ ⟨dq,ad⟩)
 rcases l with⟨_,_,h1,U⟩ | ⟨i,a,_,_,_,_,h1,U⟩
 ·exact .inl ⟨h1,U⟩
 exact .inr ⟨h1,U⟩
theorem aqm(g:bF)(xs:List ay)(aP:1<=g.ao/\g.ao<=4)(aj:xs.length<=20):
  cN prog (ap f14 1) (Ax (xs.map ay.e) 0 (g.nodes.map Node.e) g.ao g.cap [] [] ((List.replicate 4 wO).map bO.e) 0 0 (g.nodes.map Node.e) g.ao g.cap) (.exit 2)
   (OL (g.nodes.map Node.e) g.ao g.cap ((mO g xs g.ao.toNat).map aN.e) ((List.replicate (g.ao.toNat*g.ao.toNat) (kp g.cap)).map bC.e) ((List.replicate 4 wO).map bO.e) 0 0):=by
 obtain⟨n,ky⟩:∃n:Nat,g.ao=n:=⟨g.ao.toNat,by omega⟩
 have zz:n<=4:=by omega
 have sS:=fun (w:Nat) (m:Nat) (W T:List (List D)) (hm:m<=16)=>dO (P:=prog) (c:=(ap f14 2)) (ci 4) n (fun k:Nat=>D9 (xs.map ay.e) w k (g.nodes.map Node.e) g.ao g.cap W ((List.replicate (m+k) (kp g.cap)).map bC.e) T 0 0 (g.nodes.map Node.e) g.ao g.cap) (fun k hk=>by
  rw[<-E3,<-Yp];exact aq1 ⟨dc (by omega),aqg g.cap,by simp;omega,by simp;omega,⟨by omega,by omega⟩,ad⟩) (aq2 ⟨dE (by omega),ad⟩)
 have jO:=dO (P:=prog) (c:=(ap f14 1)) (ci 2) n (fun w:Nat=>Ax (xs.map ay.e) w (g.nodes.map Node.e) g.ao g.cap ((mO g xs w).map aN.e) ((List.replicate (w*n) (kp g.cap)).map bC.e) ((List.replicate 4 wO).map bO.e) 0 0 (g.nodes.map Node.e) g.ao g.cap) (fun w hw=>by
  have nU:=wa g xs w;have hm:w*n<=3*4:=Nat.mul_le_mul (by omega) zz;rw[Yo,An,show (w+1)*n=w*n+n by rw[hQ,Nat.one_mul]];exact aq3 ⟨dc (by omega),aqk g xs w aP aj,aqi (by have:=OQ (g:=g) aj (w:Nat);omega),by simp[nU];omega,by simp[nU];omega,sS w (w*n) _ _ (by omega),⟨by omega,by omega⟩,ad⟩) (aq4 ⟨dE (by omega),ad⟩)
 rw[show ((0:Nat)*n)=0 by omega]at jO;rw[ky,mU];rw[ky]at jO;exact jO
theorem OR(g:bF)(xs:List ay)(ar:g.sz<=8388608):av 14 [.agg g.e,.one (.J 5 (xs.map ay.e))] [.agg (v' g xs).1.e,.one (B (v' g xs).2)]:=by
 have pf:=CT g ar;cases h1:dg g with
 | false=>
  rw[h1]at pf;rw[wb (by unfold iY;rw[h1];rfl)];exact aqT ⟨pf,rfl,ad⟩
 | true=>
 rw[h1]at pf;by_cases aj:xs.length<=20
 case neg=>
  rw[wb (by unfold iY;rw[p7 aj,Bool.and_false];rfl)];exact aqU ⟨pf,rfl,dc (by simp;omega),ad⟩
 rcases aql g xs aj with⟨U,l⟩ | ⟨U,l⟩
 ·rw[zX (by unfold iY;rw[h1,U,o4 aj];rfl)];exact aq5 ⟨pf,rfl,dE (by simp;omega),l,WK g ar,by omega,by omega,by decide,by omega,aqm g xs (ih h1) aj,ad⟩
 rw[wb (by unfold iY;rw[U];simp)];exact aq0 ⟨pf,rfl,dE (by simp;omega),l,ad⟩
theorem arQ(g:bF)(xs:List ay)(aj:xs.length<=20):
  (xs.any nF=false/\cN prog (ap f50 0) (r7 (xs.map ay.e) 0 0 0 (g.nodes.map Node.e) g.ao g.cap) (.exit 0) (OM (xs.map ay.e) 0 0 (g.nodes.map Node.e) g.ao g.cap))\/
  (xs.any nF=true/\cN prog (ap f50 0) (r7 (xs.map ay.e) 0 0 0 (g.nodes.map Node.e) g.ao g.cap) .ret (Ay false 0 0)):=by
 have l:=hf (P:=prog) (c:=(ap f50 0)) xs nF (fun i=>r7 (xs.map ay.e) i 0 0 (g.nodes.map Node.e) g.ao g.cap) (e1:=.ret) (e2:=.exit 0) (X:=fun _ _=>Ay false 0 0) eZ (ci 0)
  (fun i a ae h=>by
   simp only[nF,fw]at h;have hi:=a6 ae;exact arb ⟨bT hi,bx,bA hi,bw ay.e ae,rZ a,h.1.1,h.1.2,h.2,cP hi (by omega),ad⟩)
  (fun i a ae h=>by
   have hi:=a6 ae;have fI:=rZ a;unfold nF at h;cases h1:(!dM a) with
   | true=>exact aq8 ⟨bT hi,bx,bA hi,bw ay.e ae,fI,h1,ad⟩
   | false=>
    cases U:(a.op != 0) with
    | true=>exact aq9 ⟨bT hi,bx,bA hi,bw ay.e ae,fI,h1,U,ad⟩
    | false=>
     rw[h1,U,jz,jz]at h;exact ara ⟨bT hi,bx,bA hi,bw ay.e ae,fI,h1,U,h,ad⟩)
  (arc ⟨dq,ad⟩)
 rcases l with⟨_,_,h1,U⟩ | ⟨i,a,_,_,_,_,h1,U⟩
 ·exact .inl ⟨h1,U⟩
 exact .inr ⟨h1,U⟩
theorem arR(g:bF)(xs:List ay)(w:Nat)(W L T:List (List D))(aP:1<=g.ao/\g.ao<=4)(aj:xs.length<=20):
  cN prog (ap f50 2) (zW (xs.map ay.e) w 0 [] (g.nodes.map Node.e) g.ao g.cap W L T 0 0 (g.nodes.map Node.e) g.ao g.cap) (.exit 4)
   (ON (xs.map ay.e) w ((own g xs w).map ay.e) (g.nodes.map Node.e) g.ao g.cap W L T 0 0 (g.nodes.map Node.e) g.ao g.cap):=by
 have zL:=fun (e:Nat) (acc ys:List ay) (ae:acc.length<=100) (bk:ys.length<=20)=>dO (P:=prog) (c:=(ap f50 3)) (ci 6) ys.length (fun i:Nat=>yi (xs.map ay.e) w e (ys.map ay.e) i ((acc++(ys.take i).filter fun r=>ec r.key g.ao==(w:Int)).map ay.e) (g.nodes.map Node.e) g.ao g.cap W L T 0 0 (g.nodes.map Node.e) g.ao g.cap) (fun i hi=>by
  obtain⟨r,aB⟩:=cV hi;have br:((ys.take i).filter fun r=>ec r.key g.ao==(w:Int)).length<=20:=by
   have:=l3 (fun r:ay=>ec r.key g.ao==(w:Int)) (ys.take i);have:=DZ i ys;omega
  rw[pM _ aB];generalize (ys.take i).filter (fun r=>ec r.key g.ao==(w:Int))=eI at*;have gw:=Wc r.key g.ao (by omega);cases U:(ec r.key g.ao==(w:Int)) with
  | false=>
   rw[bq (by decide),gR];exact aqp ⟨bT hi,bx,bA hi,bw ay.e aB,gw,U,cP hi (by omega),ad⟩
  | true=>
   rw[bh rfl,<-o5,An];exact aqo ⟨bT hi,bx,bA hi,bw ay.e aB,gw,U,by simp;omega,by simp;omega,fA (ay.flat r),cP hi (by omega),ad⟩) (aqq ⟨dq,ad⟩)
 exact dO (P:=prog) (c:=(ap f50 2)) (ci 4) 4 (fun n:Nat=>zW (xs.map ay.e) w n ((nu g xs w n).map ay.e) (g.nodes.map Node.e) g.ao g.cap W L T 0 0 (g.nodes.map Node.e) g.ao g.cap) (fun n aP=>by
  have:=zL n (nu g xs w n) (iI (n:Int) xs) (by have:=Yn (g:=g) aj (w:Int) aP;omega) (by have:=anE (n:Int) xs;omega);rw[h6,List.take_zero,List.filter_nil,gR,<-aqf]at this;rw[OP];exact aqr ⟨dc (by omega),Ig xs (n:Int) (by omega),this,⟨by omega,by omega⟩,ad⟩) (aqs ⟨dE (by omega),ad⟩)
theorem arS(g:bF)(xs:List ay)(aP:1<=g.ao/\g.ao<=4)(aj:xs.length<=20):
  cN prog (ap f50 1) (zV (xs.map ay.e) 0 (g.nodes.map Node.e) g.ao g.cap [] [] ((List.replicate 4 wO).map bO.e) 0 0 (g.nodes.map Node.e) g.ao g.cap) (.exit 2)
   (OO (g.nodes.map Node.e) g.ao g.cap ((mO g xs g.ao.toNat).map aN.e) ((List.replicate (g.ao.toNat*g.ao.toNat) (kp g.cap)).map bC.e) ((List.replicate 4 wO).map bO.e) 0 0):=by
 obtain⟨n,ky⟩:∃n:Nat,g.ao=n:=⟨g.ao.toNat,by omega⟩
 have zz:n<=4:=by omega
 have Gj:=fun (w:Nat) (m:Nat) (W T:List (List D)) (hm:m<=16)=>dO (P:=prog) (c:=(ap f50 4)) (ci 8) n (fun k:Nat=>D' (xs.map ay.e) w k (g.nodes.map Node.e) g.ao g.cap W ((List.replicate (m+k) (kp g.cap)).map bC.e) T 0 0 (g.nodes.map Node.e) g.ao g.cap) (fun k hk=>by
  rw[<-E3,<-Yp];exact aqt ⟨dc (by omega),aqh g.cap,by simp;omega,by simp;omega,⟨by omega,by omega⟩,ad⟩) (aqu ⟨dE (by omega),ad⟩)
 have jO:=dO (P:=prog) (c:=(ap f50 1)) (ci 2) n (fun w:Nat=>zV (xs.map ay.e) w (g.nodes.map Node.e) g.ao g.cap ((mO g xs w).map aN.e) ((List.replicate (w*n) (kp g.cap)).map bC.e) ((List.replicate 4 wO).map bO.e) 0 0 (g.nodes.map Node.e) g.ao g.cap) (fun w hw=>by
  have nU:=wa g xs w;have hm:w*n<=3*4:=Nat.mul_le_mul (by omega) zz;rw[Yo,An,show (w+1)*n=w*n+n by rw[hQ,Nat.one_mul]];exact aqv ⟨dc (by omega),arR g xs w _ _ _ aP aj,aqj (by have:=OQ (g:=g) aj (w:Nat);omega),by simp[nU];omega,by simp[nU];omega,Gj w (w*n) _ _ (by omega),⟨by omega,by omega⟩,ad⟩) (aqw ⟨dE (by omega),ad⟩)
 rw[show ((0:Nat)*n)=0 by omega]at jO;rw[ky,mU];rw[ky]at jO;exact jO
theorem arT(g:bF)(xs:List ay)(ar:g.sz<=8388608):av 50 [.agg g.e,.one (.J 5 (xs.map ay.e))] [.agg (v' g xs).1.e,.one (B (v' g xs).2)]:=by
 have pf:=wI g ar;cases h1:dg g with
 | false=>
  rw[h1]at pf;rw[wb (by unfold iY;rw[h1];rfl)];exact aq6 ⟨pf,rfl,ad⟩
 | true=>
 rw[h1]at pf;by_cases aj:xs.length<=20
 case neg=>
  rw[wb (by unfold iY;rw[p7 aj,Bool.and_false];rfl)];exact aq7 ⟨pf,rfl,dc (by simp;omega),ad⟩
 rcases arQ g xs aj with⟨U,l⟩ | ⟨U,l⟩
 ·rw[zX (by unfold iY;rw[h1,U,o4 aj];rfl)];exact aqx ⟨pf,rfl,dE (by simp;omega),l,WJ g ar,by omega,by omega,by decide,by omega,arS g xs (ih h1) aj,ad⟩
 rw[wb (by unfold iY;rw[U];simp)];exact aqn ⟨pf,rfl,dE (by simp;omega),l,ad⟩
end Go.Proofs.YtdchjefneblpgaaGreat
namespace Go.Proofs.YtdchjefneblpgaaGreat
open Go.Sx Go.RowKit Go.Proofs.Tryz
def th(k a b:Int):List Node:=[⟨1,0,0,[1]⟩,⟨k,0,0,[2,5]⟩,⟨4,1+a,0,[3]⟩,⟨2,b,0,[4]⟩,⟨7,0,0,[1]⟩,⟨8,0,0,[]⟩]
def lE(k a b c:Int):Nat->List Node
 | 0=>(th k a b).set 3 ⟨3,1+c,0,[4]⟩
 | 1=>(th k a b).set 4 ⟨8,0,0,[]⟩
 | 2=>(th k a b).set 2 ⟨4,1+a,0,[3,4]⟩
 | 3=>(th k a b++[(⟨8,0,0,[]⟩:Node)]).set 0 ⟨1,0,0,[1,6]⟩
 | _=>th k a b
structure kL (g:bF):Prop where
 nodes:∃(k a b c:Int) (v:Nat),(k=5\/k=6)/\(0<=a/\a<3)/\(0<=b/\b<4)/\(0<=c/\c<3)/\v<=4/\g.nodes=lE k a b c v
 ao:1<=g.ao/\g.ao<=3
 cap:1<=g.cap/\g.cap<=3
theorem kL.ok{g:bF}(h:kL g):dg g=true:=by
 obtain⟨⟨k,a,b,c,v,hk,ae,aq,al,bD,aP⟩,hw,fP⟩:=h;obtain⟨nodes,ao,cap⟩:=g;simp only at aP hw fP;have j':a=0\/a=1\/a=2:=by omega
 have Fu:b=0\/b=1\/b=2\/b=3:=by omega
 have aCq:c=0\/c=1\/c=2:=by omega
 have bp:v=0\/v=1\/v=2\/v=3\/v=4:=by omega
 have aCt:ao=1\/ao=2\/ao=3:=by omega
 have ep:cap=1\/cap=2\/cap=3:=by omega
 have key:∀k∈[(5:Int),6],∀a∈[(0:Int),1,2],∀b∈[(0:Int),1,2,3],∀c∈[(0:Int),1,2],∀v∈[0,1,2,3,4],(!(anyI (jq ⟨lE k a b c v,1,1⟩) 0 (lE k a b c v))&&decide ((lE k a b c v).length<=7)&&decide (1<=(lE k a b c v).length))=true:=by decide +kernel
 have:=key k (by grind) a (by grind) b (by grind) c (by grind) v (by rcases bp with h | h | h | h | h<;>simp[h]);simp only[b9,cc]at this;obtain⟨⟨h1,U⟩,aA⟩:=this;subst aP;have adS:jq ⟨lE k a b c v,ao,cap⟩=jq ⟨lE k a b c v,1,1⟩:=rfl;unfold dg;simp only[b9];rw[adS];refine⟨⟨⟨?_,?_⟩,?_⟩,h1⟩
 ·simp only[aw,b9,cc];omega
 ·simp only[aw,b9,cc];omega
 simp only[aw,b9,cc];omega
theorem Iv(b:List Int)(c:gq)(al:c.ok b):∃(d:gq) (g:bF),d.ok b/\kL g/\cH prog 118 [.cur (c.e b) (d.e b)] (.vals [.agg g.e]):=by
 obtain⟨d1,gv,dt,h1,b4⟩:=hY b c 3 al (by omega);obtain⟨d2,gT,dm,U,cQ⟩:=hY b d1 3 dt (by omega);obtain⟨d3,x,eY,dz⟩:=Wu b d2 3 dm (by omega);obtain⟨d4,jS,kj,aI,gz⟩:=hY b d3 3 eY (by omega);obtain⟨d5,lv,LW,a',mR⟩:=hY b d4 4 kj (by omega);obtain⟨d6,n6,aeV,bu,pX⟩:=hY b d5 3 LW (by omega);obtain⟨d7,n7,aeW,bU,tr⟩:=hY b d6 6 aeV (by omega);have i1:aJ .i64 (1+gv):=⟨by omega,by omega⟩
 have i2:aJ .i64 (1+gT):=⟨by omega,by omega⟩
 have i4:aJ .i64 (1+jS):=⟨by omega,by omega⟩
 have i6:aJ .i64 (1+n6):=⟨by omega,by omega⟩
 have fin:∀(k:Int) (v:Nat) {ds:List (List D)},(k=5\/k=6)->v<=4->nN ds ((lE k jS lv n6 v).map Node.e)->cH prog 118 [.cur (c.e b) (d7.e b)] (.vals [.agg [.J 4 ds,I (1+gv),I (1+gT)]])->
   ∃(d:gq) (g:bF),d.ok b/\kL g/\cH prog 118 [.cur (c.e b) (d.e b)] (.vals [.agg g.e]):=by
  intro k v ds hk bD br aB;exact⟨d7,⟨lE k jS lv n6 v,1+gv,1+gT⟩,aeW,⟨⟨k,jS,lv,n6,v,hk,aI,a',bu,bD,rfl⟩,by grind,by grind⟩,
   aB.fit (.cons (.agg (.cons (.J 4 br) (kM.refl _))) .nil)⟩
 have f1:∀d,Fit d d:=.refl;by_cases cd:n7=0
 ·cases x
  ·exact fin 5 0 (.inl rfl) (by omega) (by repeat (first | exact .refl _ | constructor)) (axi ⟨b4,i1,cQ,i2,dz,rfl,gz,i4,mR,pX,i6,tr,by simp[cd],by omega,by simp,rfl,ad⟩)
  exact fin 6 0 (.inr rfl) (by omega) (by repeat (first | exact .refl _ | constructor)) (axN ⟨b4,i1,cQ,i2,dz,rfl,gz,i4,mR,pX,i6,tr,by simp[cd],by omega,by simp,rfl,ad⟩)
 by_cases e1:n7=1
 ·cases x
  ·exact fin 5 1 (.inl rfl) (by omega) (by repeat (first | exact .refl _ | constructor)) (axj ⟨b4,i1,cQ,i2,dz,rfl,gz,i4,mR,pX,i6,tr,by simp[cd],by simp[e1],by omega,by simp,rfl,ad⟩)
  exact fin 6 1 (.inr rfl) (by omega) (by repeat (first | exact .refl _ | constructor)) (axe ⟨b4,i1,cQ,i2,dz,rfl,gz,i4,mR,pX,i6,tr,by simp[cd],by simp[e1],by omega,by simp,rfl,ad⟩)
 by_cases e2:n7=2
 ·cases x
  ·exact fin 5 2 (.inl rfl) (by omega) (by repeat (first | exact .refl _ | constructor)) (axk ⟨b4,i1,cQ,i2,dz,rfl,gz,i4,mR,pX,i6,tr,by simp[cd],by simp[e1],by simp[e2],by omega,by simp,rfl,ad⟩)
  exact fin 6 2 (.inr rfl) (by omega) (by repeat (first | exact .refl _ | constructor)) (axf ⟨b4,i1,cQ,i2,dz,rfl,gz,i4,mR,pX,i6,tr,by simp[cd],by simp[e1],by simp[e2],by omega,by simp,rfl,ad⟩)
 by_cases cx:n7=3
 ·cases x
  ·exact fin 5 3 (.inl rfl) (by omega) (by repeat (first | exact .refl _ | constructor)) (axl ⟨b4,i1,cQ,i2,dz,rfl,gz,i4,mR,pX,i6,tr,by simp[cd],by simp[e1],by simp[e2],by simp[cx],by simp,by simp,by omega,by simp,rfl,ad⟩)
  exact fin 6 3 (.inr rfl) (by omega) (by repeat (first | exact .refl _ | constructor)) (axg ⟨b4,i1,cQ,i2,dz,rfl,gz,i4,mR,pX,i6,tr,by simp[cd],by simp[e1],by simp[e2],by simp[cx],by simp,by simp,by omega,by simp,rfl,ad⟩)
 cases x
 ·exact fin 5 4 (.inl rfl) (by omega) (by repeat (first | exact .refl _ | constructor)) (axm ⟨b4,i1,cQ,i2,dz,rfl,gz,i4,mR,pX,i6,tr,by simp[cd],by simp[e1],by simp[e2],by simp[cx],ad⟩)
 exact fin 6 4 (.inr rfl) (by omega) (by repeat (first | exact .refl _ | constructor)) (axh ⟨b4,i1,cQ,i2,dz,rfl,gz,i4,mR,pX,i6,tr,by simp[cd],by simp[e1],by simp[e2],by simp[cx],ad⟩)
def Eb(p:b6):Prop:=(1<=p.kind/\p.kind<=7)/\(0<=p.a/\p.a<3)/\(0<=p.b/\p.b<3)
theorem arU(b:List Int)(c:gq)(al:c.ok b):∃(d:gq) (p:b6),d.ok b/\Eb p/\cH prog 242 [.cur (c.e b) (d.e b)] (.vals [.agg p.e]):=by
 obtain⟨d1,k,dt,h1,b4⟩:=uK b c [1,1,1,2,3,3,3,4,4,5,6,6,7] al (by simp);obtain⟨d2,a,dm,U,cQ⟩:=hY b d1 3 dt (by omega);have hk:1<=k/\k<=7:=by
  simp only[dQ,qW,or_false]at h1;omega
 by_cases eD:k=4
 ·obtain⟨d3,m,eY,aA,dz⟩:=hY b d2 2 dm (by omega);have qy:aJ .i64 (a+1):=⟨by omega,by omega⟩
  have py:aJ .i64 (a+1+m):=⟨by omega,by omega⟩
  exact⟨d3,⟨k,a,(a+1+m).tmod 3⟩,eY,⟨hk,U,Int.tmod_nonneg _ (by omega),Int.tmod_lt_of_pos _ (by omega)⟩,ay2 ⟨b4,cQ,by simp[eD],ay1 ⟨qy,dz,py,by decide,ad⟩,ad⟩⟩
 by_cases iS:k=5
 ·obtain⟨d3,m,eY,aA,dz⟩:=hY b d2 2 dm (by omega);have qy:aJ .i64 (a+1):=⟨by omega,by omega⟩
  have py:aJ .i64 (a+1+m):=⟨by omega,by omega⟩
  exact⟨d3,⟨k,a,(a+1+m).tmod 3⟩,eY,⟨hk,U,Int.tmod_nonneg _ (by omega),Int.tmod_lt_of_pos _ (by omega)⟩,ay4 ⟨b4,cQ,by simp[eD],by simp[iS],ay3 ⟨qy,dz,py,by decide,ad⟩,ad⟩⟩
 exact⟨d2,⟨k,a,0⟩,dm,⟨hk,U,by grind⟩,ay5 ⟨b4,cQ,by simp[eD],by simp[iS],ad⟩⟩
theorem acw(p:b6):Flat [p.e]:=fA fun d aF=>by
 simp only[b6.e,dQ,qW,or_false]at aF;grind
theorem Yq(b:List Int)(m:Nat)(hm:m<=1000):∀(n i:Nat) (xs:List b6) (c:gq),i+n=m+1->c.ok b->xs.length<=i->(∀p∈xs,Eb p)->
  ∃(ys:List b6) (d:gq),d.ok b/\ys.length<=m+1/\(∀p∈ys,Eb p)/\cN prog (ap f120 0) (Dd (b.map iE) m i (xs.map b6.e) c.i c.h) (.exit 0) (Oj (b.map iE) (ys.map b6.e) d.i d.h)
 | n,i,xs,c,iu,al,aj,aa=>by
  obtain⟨d1,k,dt,hk,b4⟩:=hY b c ((m:Int)+1) al (by omega);by_cases h:(i:Int)<k
  ·match n with
   | 0=>omega
   | n+1=>
    obtain⟨d2,p,dm,hp,cQ⟩:=arU b d1 dt;obtain⟨ys,d,o,gD,hN,l⟩:=Yq b m hm n (i+1) (xs++[p]) d2 (by omega) dm (by simp;omega) (fun z aL=>by
     grind)
    refine⟨ys,d,o,gD,hN,.more ?_ l⟩;rw[gF];exact ay6 ⟨⟨by omega,by omega⟩,b4,o4 h,cQ,by simp;omega,by simp;omega,acw p,⟨by omega,by omega⟩,ad⟩
  exact⟨xs,d1,dt,by omega,aa,.last (ci 0) (ay7 ⟨⟨by omega,by omega⟩,b4,p7 h,ad⟩)⟩
theorem arV(b:List Int)(c:gq)(m:Nat)(hm:m<=1000)(al:c.ok b):∃(d:gq) (ca:List b6),d.ok b/\ca.length<=m+1/\(∀p∈ca,Eb p)/\cH prog 120 [.cur (c.e b) (d.e b),.ro (.one (I m))] (.vals [.one (.J 3 (ca.map b6.e))]):=by
 obtain⟨ys,d,o,gD,hN,l⟩:=Yq b m hm (m+1) 0 [] c (by omega) al (by simp) (by simp);exact⟨d,ys,o,gD,hN,ay8 ⟨l,ad⟩⟩
theorem arW(b:List Int)(aq:Bytes b):∃(g:bF) (xs:List ay) (ca:List b6),kL g/\(xs.length<=5/\∀r∈xs,Input r)/\(ca.length<=81/\∀p∈ca,Eb p)/\
  av 13 [.one (.J 1 (b.map iE))] [.agg g.e,.one (.J 5 (xs.map ay.e)),.one (.J 3 (ca.map b6.e))]:=by
 obtain⟨c,al,hh⟩:=NJ b aq;obtain⟨d1,g,dt,ar,b4⟩:=Iv b c al;obtain⟨d2,xs,dm,fM,gO,cQ⟩:=Ho b d1 dt;obtain⟨d3,ca,eY,ux,Gs,dz⟩:=arV b d2 80 (by omega) dm;exact⟨g,xs,ca,ar,⟨fM,gO⟩,⟨ux,Gs⟩,ay9 ⟨hh,b4,cQ,dz,ad⟩⟩
end Go.Proofs.YtdchjefneblpgaaGreat
namespace Go.Proofs.YtdchjefneblpgaaGreat
open Go.Sx Go.RowKit Go.Proofs.Tryz
theorem Iw{α:Type}{f:α->Nat}{k:Nat}:∀{xs:List α},(∀x∈xs,f x<=k)->(xs.map f).sum<=xs.length*k
 | [],_=>by simp
 | a::xs,h=>by
  have h1:=h a (by simp);have U:=Iw (f:=f) (k:=k) (xs:=xs) (fun x aa=>h x (by simp[aa]));simp only[iM,sj,fO,hQ,Nat.one_mul];omega
variable{g:bF}{xs:List ay}
theorem yj:iY g xs=true<->dg g=true/\xs.length<=20/\xs.any nF=false:=by
 simp only[iY,b9,cc,gQ,and_assoc]
theorem zY(h:iY g xs=true):(dn g xs).sz<=g.sz+1000:=by
 obtain⟨h1,U,_⟩:=yj.1 h;have aP:=ih h1;obtain⟨n,ky⟩:∃n:Nat,g.ao=n:=⟨g.ao.toNat,by omega⟩
 have a:=Iw (f:=aN.sz) (k:=92) (xs:=mO g xs n) (fun x aa=>by
  simp only[mO,fV]at aa;obtain⟨w,_,rfl⟩:=aa;have:=OQ (g:=g) U (w:Nat);simp only[mm,aN.sz,ej,List.length_replicate];omega)
 have b:=Iw (f:=bC.sz) (k:=0) (xs:=List.replicate (n*n) (kp g.cap)) (fun x aa=>by
  rw[List.eq_of_mem_replicate aa];simp[kp,bC.sz])
 have hm:n*n<=4*4:=Nat.mul_le_mul (by omega) (by omega);simp only[dn,aV.sz,fZ,ky,mU,List.length_replicate,ej,wa]at a b ⊢;omega
theorem Ix(g:bF)(xs:List ay):ga (dn g xs):=by
 intro l aj;have:=List.eq_of_mem_replicate aj;subst this;simp[kp]
theorem Yr(h:iY g xs=true):0<(dn g xs).ao.length:=by
 have aP:=ih (yj.1 h).1;simp only[dn,wa];omega
end Go.Proofs.YtdchjefneblpgaaGreat
namespace Go.Proofs.YtdchjefneblpgaaGreat
open Go.Sx Go.RowKit Go.Proofs.Tryz
theorem kL.size{g:bF}(h:kL g):g.sz<=100:=by
 obtain⟨⟨k,a,b,c,v,hk,ae,aq,al,bD,aP⟩,hw,fP⟩:=h;obtain⟨nodes,ao,cap⟩:=g;simp only at aP;subst aP;have e:(⟨lE k a b c v,ao,cap⟩:bF).sz=fZ Node.sz (lE k a b c v):=rfl;rw[e];have bp:v=0\/v=1\/v=2\/v=3\/v=4:=by omega
 rcases bp with rfl | rfl | rfl | rfl | rfl<;>simp[fZ,lE,th,Node.sz]
theorem Input.q'{r:ay}(h:Input r):nF r=false:=by
 obtain⟨h1,U,aA,aI,a'⟩:=h;have ok:dM r=true:=by
  simp only[dM,hZ,ey,aw,b9,cc,h1,U];omega
 simp[nF,ok,h1,U]
theorem zZ{g:bF}{xs:List ay}(ar:kL g)(aj:xs.length<=6)(aa:∀r∈xs,Input r):iY g xs=true:=
 yj.2 ⟨ar.ok,by omega,fm.2 fun r aB=>by simp[(aa r aB).q']⟩
end Go.Proofs.YtdchjefneblpgaaGreat
namespace Go.Proofs.YtdchjefneblpgaaGreat
open Go.Sx Go.RowKit Go.Proofs.Tryz
def Fair(r:ay):Prop:=(0<=r.op/\r.op<5)/\(0<=r.bf.aU/\r.bf.aU<4)/\(0<=r.bf.dG/\r.bf.dG<5)/\(0<=r.key/\r.key<12)/\(0<=r.val/\r.val<40)
theorem CA{n:Int}(h1:-9223372036854775808<=n)(U:n<=9223372036854775807):aJ .i64 n:=⟨h1,U⟩
theorem Fair.wf{r:ay}(h:Fair r):r.wf:=by
 obtain⟨h1,U,aA,aI,a'⟩:=h;exact⟨CA (by omega) (by omega),⟨CA (by omega) (by omega),CA (by omega) (by omega)⟩,CA (by omega) (by omega),CA (by omega) (by omega)⟩
