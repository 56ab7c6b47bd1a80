import Derived.Test.YtdchjefneblpgaaGreatP42
import Derived.Test.YtdchjefneblpgaaGreatP43
import Derived.Test.YtdchjefneblpgaaGreatGY
set_option linter.unusedVariables false
set_option linter.unusedSimpArgs false
namespace Go.Proofs.YtdchjefneblpgaaGreat
open Go.Sx Go.RowKit Go.Proofs.Tryz
def rL(r:aA):Bool:=!fZ r||r.op != 0||r.bc.cD != 0
def x0(g:bW)(xs:List aA)(w e:Int):List aA:=xs.filter fun r=>r.bc.a8==e&&eE r.key g.ap==w
def oC(g:bW)(xs:List aA)(w:Int)(n:Nat):List aA:=(List.range n).flatMap fun e=>x0 g xs w (e:Nat)
def own(g:bW)(xs:List aA)(w:Int):List aA:=oC g xs w 4
def kn(xs:List aA):aP:=⟨[],[],xs,[],List.replicate 4 0,List.replicate 4 false,List.replicate 4 false,[]⟩
def j1(cap:Int):bC:=⟨hf cap 1 4,[],hf cap 1 4,0,0,0⟩
def BS:b':=⟨false,0,0,false,false⟩
def oT(g:bW)(xs:List aA)(n:Nat):List aP:=(List.range n).map fun w=>kn (own g xs (w:Nat))
def eO(g:bW)(xs:List aA):aU:=⟨g,oT g xs g.ap.toNat,List.replicate (g.ap.toNat*g.ap.toNat) (j1 g.cap),List.replicate 4 BS,[]⟩
def S':aU:=⟨⟨[],0,0⟩,[],[],[],[]⟩
def lx(g:bW)(xs:List aA):Bool:=fa g&&decide (xs.length<=20)&&!xs.any rL
def yU(g:bW)(xs:List aA):aU×Bool:=if lx g xs then (eO g xs,true) else (S',false)
theorem Ta(g:bW)(xs:List aA)(w:Int)(n:Nat):oC g xs w (n+1)=oC g xs w n++x0 g xs w (n:Nat):=by
 simp[oC,List.range_succ]
theorem Tb(g:bW)(xs:List aA)(w:Int)(n:Nat):(oC g xs w n).length<=n*xs.length:=by
 have h:=yA (fun e:Nat=>x0 g xs w (e:Nat)) xs.length (fun _=>qL _ _) (List.range n);rwa[u3]at h
variable{xs:List aA}
theorem Tc{g:bW}(af:xs.length<=20)(w:Int):(own g xs w).length<=80:=by
 have:=Tb g xs w 4;unfold own;omega
theorem aeY{g:bW}(af:xs.length<=20)(w:Int){n:Nat}(aL:n<4):(oC g xs w n).length<=60:=by
 have:=Tb g xs w n;have:n*xs.length<=3*20:=Nat.mul_le_mul (by omega) af;omega
theorem aeZ(g:bW)(xs:List aA)(n:Nat):oT g xs (n+1)=oT g xs n++[kn (own g xs (n:Nat))]:=by
 simp[oT,List.range_succ]
theorem yV(g:bW)(xs:List aA)(n:Nat):(oT g xs n).length=n:=by simp[oT]
theorem ae0{α:Type}{f:α->List D}{x:α}{m:Nat}:(List.replicate m x).map f++[f x]=(List.replicate (m+1) x).map f:=by
 rw[List.replicate_succ',e3];rfl
theorem Td(cap:Int):aK 126 [.one (I cap)] [.agg (j1 cap).e]:=aeW ⟨EX cap 1 4,aj⟩
theorem Te(xs:List aA)(af:xs.length<=1000):aK 124 [.one (.J 5 (xs.map aA.e))] [.agg (kn xs).e]:=
 aeX ⟨nl (by simp;omega),nI (by simp;omega),cn _ aA.flat _,by omega,by omega,by decide,by omega,by omega,by omega,by decide,by omega,by omega,by omega,by decide,by omega,aj⟩
theorem ae1(g:bW)(xs:List aA)(w:Int)(aL:1<=g.ap/\g.ap<=4)(af:xs.length<=20):aK 125 [.agg g.e,.one (.J 5 (xs.map aA.e)),.one (I w)] [.one (.J 5 ((own g xs w).map aA.e))]:=by
 have gT:=fun (e:Nat) (he:e<4) (acc:List aA) (ag:acc.length<=100)=>ef (P:=prog) (c:=(az f125 1)) (cL 2) xs.length (fun i:Nat=>s4 (g.nodes.map Node.e) g.ap g.cap (xs.map aA.e) w e i ((acc++(xs.take i).filter fun r=>r.bc.a8==(e:Int)&&eE r.key g.ap==w).map aA.e)) (fun i hi=>by
  obtain⟨r,ar⟩:=dv hi;have bl:((xs.take i).filter fun r=>r.bc.a8==(e:Int)&&eE r.key g.ap==w).length<=20:=by
   have:=qL (fun r:aA=>r.bc.a8==(e:Int)&&eE r.key g.ap==w) (xs.take i);have:=J2 i xs;omega
  rw[ua _ ar];generalize (xs.take i).filter (fun r=>r.bc.a8==(e:Int)&&eE r.key g.ap==w)=eT at*;have sO:=R6 r.key g.ap (by omega);cases h1:(r.bc.a8==(e:Int)) with
  | false=>
   rw[Bool.false_and,aX (by decide),ix];exact aeR ⟨cg hi,bG,bJ hi,bF aA.e ar,h1,cY hi (by omega),aj⟩
  | true=>
   cases U:(eE r.key g.ap==w) with
   | false=>
    rw[Bool.and_false,aX (by decide),ix];exact aeQ ⟨cg hi,bG,bJ hi,bF aA.e ar,h1,bG,bJ hi,bF aA.e ar,sO,U,cY hi (by omega),aj⟩
   | true=>
    rw[tr,a6 rfl,<-mo,JZ];exact aeP ⟨cg hi,bG,bJ hi,bF aA.e ar,h1,bG,bJ hi,bF aA.e ar,sO,U,bG,bJ hi,bF aA.e ar,by simp;omega,by simp;omega,dk (aA.flat r),cY hi (by omega),aj⟩) (aeS ⟨dH,aj⟩)
 have ej:=ef (P:=prog) (c:=(az f125 0)) (cL 0) 4 (fun n:Nat=>BE (g.nodes.map Node.e) g.ap g.cap (xs.map aA.e) w n ((oC g xs w n).map aA.e)) (fun n aL=>by
  have:=gT n aL (oC g xs w n) (by have:=aeY (g:=g) af w aL;omega);rw[hP,List.take_zero,List.filter_nil,ix]at this;rw[Ta];exact aeT ⟨dU (by omega),this,⟨by omega,by omega⟩,aj⟩) (aeU ⟨eX (by omega),aj⟩)
 exact aeV ⟨ej,aj⟩
theorem LA{g:bW}(h:lx g xs=false):yU g xs=(S',false):=by unfold yU;rw[h];rfl
theorem SE{g:bW}(h:lx g xs=true):yU g xs=(eO g xs,true):=by unfold yU;rw[h];rfl
theorem ae2(g:bW)(xs:List aA)(af:xs.length<=20):
  (xs.any rL=false/\dd prog (az f14 0) (qm (xs.map aA.e) 0 0 0 (g.nodes.map Node.e) g.ap g.cap) (.exit 0) (Lx (xs.map aA.e) 0 0 (g.nodes.map Node.e) g.ap g.cap))\/
  (xs.any rL=true/\dd prog (az f14 0) (qm (xs.map aA.e) 0 0 0 (g.nodes.map Node.e) g.ap g.cap) .ret (yR false 0 0)):=by
 have l:=jb (P:=prog) (c:=(az f14 0)) xs rL (fun i=>qm (xs.map aA.e) i 0 0 (g.nodes.map Node.e) g.ap g.cap) (e1:=.ret) (e2:=.exit 0) (X:=fun _ _=>yR false 0 0) hd (cL 0)
  (fun i a ag h=>by
   simp only[rL,gz]at h;have hi:=bh ag;exact afx ⟨cg hi,bG,bJ hi,bF aA.e ag,s0 a,h.1.1,bG,bJ hi,bF aA.e ag,h.1.2,bG,bJ hi,bF aA.e ag,h.2,cY hi (by omega),aj⟩)
  (fun i a ag h=>by
   have hi:=bh ag;have kg:=s0 a;unfold rL at h;cases h1:(!fZ a) with
   | true=>exact afu ⟨cg hi,bG,bJ hi,bF aA.e ag,kg,h1,aj⟩
   | false=>
    cases U:(a.op != 0) with
    | true=>exact afv ⟨cg hi,bG,bJ hi,bF aA.e ag,kg,h1,bG,bJ hi,bF aA.e ag,U,aj⟩
    | false=>
     rw[h1,U,ml,ml]at h;exact afw ⟨cg hi,bG,bJ hi,bF aA.e ag,kg,h1,bG,bJ hi,bF aA.e ag,U,bG,bJ hi,bF aA.e ag,h,aj⟩)
  (afy ⟨dH,aj⟩)
 rcases l with⟨_,_,h1,U⟩ | ⟨i,a,_,_,_,_,h1,U⟩
 ·exact .inl ⟨h1,U⟩
 exact .inr ⟨h1,U⟩
theorem ae3(g:bW)(xs:List aA)(aL:1<=g.ap/\g.ap<=4)(af:xs.length<=20):
  dd prog (az f14 1) (yS (xs.map aA.e) 0 (g.nodes.map Node.e) g.ap g.cap [] [] ((List.replicate 4 BS).map b'.e) 0 0 (g.nodes.map Node.e) g.ap g.cap) (.exit 2)
   (Ly (g.nodes.map Node.e) g.ap g.cap ((oT g xs g.ap.toNat).map aP.e) ((List.replicate (g.ap.toNat*g.ap.toNat) (j1 g.cap)).map bC.e) ((List.replicate 4 BS).map b'.e) 0 0):=by
 obtain⟨n,iE⟩:∃n:Nat,g.ap=n:=⟨g.ap.toNat,by omega⟩
 have zN:n<=4:=by omega
 have rh:=fun (w:Nat) (m:Nat) (W T:List (List D)) (hm:m<=16)=>ef (P:=prog) (c:=(az f14 2)) (cL 4) n (fun k:Nat=>BD (xs.map aA.e) w k (g.nodes.map Node.e) g.ap g.cap W ((List.replicate (m+k) (j1 g.cap)).map bC.e) T 0 0 (g.nodes.map Node.e) g.ap g.cap) (fun k hk=>by
  rw[<-u4,<-ae0];exact afA ⟨dU (by omega),Td g.cap,by simp;omega,by simp;omega,⟨by omega,by omega⟩,aj⟩) (afB ⟨eX (by omega),aj⟩)
 have gT:=ef (P:=prog) (c:=(az f14 1)) (cL 2) n (fun w:Nat=>yS (xs.map aA.e) w (g.nodes.map Node.e) g.ap g.cap ((oT g xs w).map aP.e) ((List.replicate (w*n) (j1 g.cap)).map bC.e) ((List.replicate 4 BS).map b'.e) 0 0 (g.nodes.map Node.e) g.ap g.cap) (fun w hw=>by
  have pa:=yV g xs w;have hm:w*n<=3*4:=Nat.mul_le_mul (by omega) zN;rw[aeZ,JZ,show (w+1)*n=w*n+n by rw[fB,Nat.one_mul]];exact aeM ⟨dU (by omega),ae1 g xs w aL af,Te _ (by have:=Tc (g:=g) af (w:Nat);omega),by simp[pa];omega,by simp[pa];omega,rh w (w*n) _ _ (by omega),⟨by omega,by omega⟩,aj⟩) (aeN ⟨eX (by omega),aj⟩)
 rw[show ((0:Nat)*n)=0 by omega]at gT;rw[iE,jh];rw[iE]at gT;exact gT
theorem ae4(g:bW)(xs:List aA)(ao:g.sz<=8388608):aK 14 [.agg g.e,.one (.J 5 (xs.map aA.e))] [.agg (yU g xs).1.e,.one (B (yU g xs).2)]:=by
 have xw:=yc g ao;cases h1:fa g with
 | false=>
  rw[h1]at xw;rw[LA (by unfold lx;rw[h1];rfl)];exact afs ⟨xw,rfl,aj⟩
 | true=>
 rw[h1]at xw;by_cases af:xs.length<=20
 case neg=>
  rw[LA (by unfold lx;rw[mu af,Bool.and_false];rfl)];exact aft ⟨xw,rfl,dU (by simp;omega),aj⟩
 rcases ae2 g xs af with⟨U,l⟩ | ⟨U,l⟩
 ·rw[SE (by unfold lx;rw[h1,U,ji af];rfl)];exact aeO ⟨xw,rfl,eX (by simp;omega),l,S1 g ao,by omega,by omega,by decide,by omega,ae3 g xs (jZ h1) af,aj⟩
 rw[LA (by unfold lx;rw[U];simp)];exact afz ⟨xw,rfl,eX (by simp;omega),l,aj⟩
