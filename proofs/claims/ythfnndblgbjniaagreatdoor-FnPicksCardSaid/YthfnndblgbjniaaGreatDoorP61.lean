import Derived.Test.YthfnndblgbjniaaGreatDoorT5
import Derived.Test.YthfnndblgbjniaaGreatDoorR35
import Derived.Test.YthfnndblgbjniaaGreatDoorGD
import Derived.Test.YthfnndblgbjniaaGreatDoorP72
set_option linter.unusedVariables false
set_option linter.unusedSimpArgs false
namespace Go.Proofs.YthfnndblgbjniaaGreatDoor
open Go.Sx Go.RowKit Go.Proofs.Tryz
def hF(n:Int):List D:=[.v (.int .u8 n)]
structure dQ where
 i:Int
 h:Int
def dQ.e(b:List Int)(c:dQ):List D:=[.J 1 (b.map hF),I c.i,I c.h]
def Bytes(b:List Int):Prop:=b.length<=8388608/\∀x∈b,0<=x/\x<=255
def dQ.ok(b:List Int)(c:dQ):Prop:=Bytes b/\0<=c.i/\c.i<=b.length
theorem awJ{P:Program}{t:TypeId}{ds:List D}(hu:P.underlying t=some (.int .u8))(h:j3 P t ds):∃n,ds=hF n/\0<=n/\n<=255:=by
 have aa:∃n,ds=[.v (.int .u8 n)]/\(Lit.int .u8 n).wf=true:=by cases h<;>simp_all
 obtain⟨n,e,hw⟩:=aa;refine⟨n,e,?_⟩;simp[Lit.wf]at hw;have aB:IntKind.u8.min=0:=rfl;rw[aB]at hw;exact hw
theorem ar7:prog.cellsOf 5=1:=by kernel_rfl
theorem ar8{ds:List D}(h:j3 prog 22 ds):∃xs:List Int,ds=[.J 1 (xs.map hF)]/\(xs.length:Int)<=9223372036854775807/\∀a∈xs,(fun n=>0<=n/\n<=255) a:=
 apM hF (fun n=>0<=n/\n<=255) Tryz.underlying22 ar7 (fun ds h=>awJ Tryz.underlying5 h) h
theorem ar9{cq:cJ}(h:Cm prog 22 cq):∃xs:List Int,cq=.one (.J 1 (xs.map hF))/\(xs.length:Int)<=9223372036854775807/\∀a∈xs,(fun n=>0<=n/\n<=255) a:=by
 cases cq with
 | agg ds=>have:=h.2;simp[r0,Tryz.underlying22]at this
 | one d=>
  obtain⟨x,e,aq⟩:=ar8 h.1;grind
theorem Rd{P:Program}(a:Int)(n:Nat):∃m:Int,∀t x y,fz P .shr t x y (.int .i64 a) (.int .u64 (n:Int)) (.int .i64 m):=⟨_,fun _ _ _=>api⟩
theorem asa{P:Program}(a b:Int):∃m:Int,∀t x y,fz P .xor t x y (.int .i64 a) (.int .i64 b) (.int .i64 m):=⟨_,fun _ _ _=>apj⟩
theorem Kk{P:Program}(a:Int)(k:Nat)(ba:k<2 ^ 62):∃m:Int,(0<=m/\m<=k)/\∀t x y,fz P .and t x y (.int .i64 a) (.int .i64 (k:Int)) (.int .i64 m):=⟨_,apl a k ba,fun _ _ _=>apk⟩
theorem Re(b:List Int)(ay:Bytes b):∀(n i:Nat) (h:Int),i+n=b.length->0<=h/\h<=1073741823->∃sa,c6 prog (ap f32 0) (yl (b.map hF) i h) (.exit 0) (EU (b.map hF) sa)
 | 0,i,h,hi,bD=>⟨h,.last (cy 0) (aqT ⟨by grind,ad⟩)⟩
 | n+1,i,h,hi,bD=>by
  have ar:=ay.1;obtain⟨x,aq⟩:=c2 (xs:=b) (i:=i) (by omega);have ay:=ay.2 x (eQ aq);by_cases aJ:(i:Int)<4000
  ·obtain⟨m,hm,r⟩:=Kk (P:=prog) (h*131+x+7) 1073741823 (by decide);obtain⟨sa,l⟩:=Re b ‹Bytes b› n (i+1) m (by omega) hm;exact⟨sa,.more (apr ⟨cc (by omega),kF aJ,⟨by omega,by omega⟩,bB,bI (by omega),bC hF aq,⟨by omega,by omega⟩,⟨by omega,by omega⟩,⟨by omega,by omega⟩,r _ _ _,⟨by omega,by omega⟩,ad⟩) l⟩
  exact⟨h,.last (cy 0) (aps ⟨cc (by omega),mg aJ,ad⟩)⟩
theorem Rf(b:List Int)(ay:Bytes b):∃c:dQ,c.ok b/\b3 prog 32 [.ro (.one (.J 1 (b.map hF)))] (.iO [some 0,none,none] (c.e b)):=by
 have ar:=ay.1;obtain⟨sa,l⟩:=Re b ay b.length 0 (94701+(↑(b.map hF).length:Int)) (by omega) ⟨by omega,by simp;omega⟩;exact⟨⟨0,sa⟩,⟨ay,by grind,by grind⟩,aqU ⟨⟨by omega,by simp;omega⟩,l,ad⟩⟩
theorem EW(b:List Int)(c:dQ)(ao:c.ok b):∃(d:dQ) (n:Int),d.ok b/\(0<=n/\n<=255)/\b3 prog 74 [.cur (c.e b) (d.e b)] (.vals [.one (I n)]):=by
 obtain⟨⟨U,aa⟩,aB,aJ⟩:=ao;obtain⟨kd,ch⟩:=Rd (P:=prog) (IntKind.i64.wrap (IntKind.i64.wrap (c.h*6364136223846793005)+1442695040888963407)) 33;obtain⟨iN,eB⟩:=Rd (P:=prog) (IntKind.i64.wrap (IntKind.i64.wrap (c.h*6364136223846793005)+1442695040888963407)) 45;obtain⟨kx,ki⟩:=asa (P:=prog) kd iN;obtain⟨n6,m6,oE⟩:=Kk (P:=prog) kx 255 (by decide);by_cases hi:c.i<b.length
 ·obtain⟨x,aq⟩:=c2 (xs:=b) (i:=c.i.toNat) (by omega);have ay:=aa x (eQ aq);obtain⟨Z8,m8,awr⟩:=Kk (P:=prog) (IntKind.i64.wrap (n6+IntKind.i64.wrap x)) 255 (by decide);exact⟨⟨c.i+1,IntKind.i64.wrap (IntKind.i64.wrap (c.h*6364136223846793005)+1442695040888963407)⟩,Z8,⟨⟨U,aa⟩,by grind,by grind⟩,m8,aqV ⟨ch _ _ _,eB _ _ _,ki _ _ _,oE _ _ _,by grind,aB,by grind,by rw[dP,aq];rfl,awr _ _ _,⟨by omega,by omega⟩,ad⟩⟩
 exact⟨⟨c.i,IntKind.i64.wrap (IntKind.i64.wrap (c.h*6364136223846793005)+1442695040888963407)⟩,n6,⟨⟨U,aa⟩,aB,aJ⟩,m6,aqW ⟨ch _ _ _,eB _ _ _,ki _ _ _,oE _ _ _,by grind,ad⟩⟩
theorem dZ(b:List Int)(c:dQ)(k:Int)(ao:c.ok b)(ba:1<=k/\k<=1000000):∃(d:dQ) (n:Int),d.ok b/\(0<=n/\n<k)/\b3 prog 36 [.cur (c.e b) (d.e b),.ro (.one (I k))] (.vals [.one (I n)]):=by
 have md:∀m:Int,0<=m->0<=m.tmod k/\m.tmod k<k:=fun m hm=>⟨Int.tmod_nonneg _ hm,Int.tmod_lt_of_pos m (by omega)⟩
 obtain⟨d1,hI,cC,e0,bE⟩:=EW b c ao;by_cases h:k<=256
 ·exact⟨d1,_,cC,md hI e0.1,aqX ⟨mg (by omega),kF h,bE,by omega,ad⟩⟩
 obtain⟨d2,ih,cg,fQ,b0⟩:=EW b d1 cC;obtain⟨d3,kd,cE,tp,ch⟩:=EW b d2 cg;obtain⟨d4,iN,fG,wS,eB⟩:=EW b d3 cE;exact⟨d4,_,fG,md _ (by omega),aqZ ⟨mg (by omega),mg h,bE,b0,ch,eB,⟨by omega,by omega⟩,⟨by omega,by omega⟩,⟨by omega,by omega⟩,⟨by omega,by omega⟩,⟨by omega,by omega⟩,⟨by omega,by omega⟩,by omega,ad⟩⟩
theorem EX(b:List Int)(c:dQ)(k:Int)(ao:c.ok b)(ba:1<=k/\k<=1000000):∃(d:dQ) (x:Bool),d.ok b/\b3 prog 34 [.cur (c.e b) (d.e b),.ro (.one (I k))] (.vals [.one (B x)]):=by
 obtain⟨d,n,o,_,r⟩:=dZ b c k ao ba;exact⟨d,_,o,aq0 ⟨r,ad⟩⟩
theorem k'(b:List Int)(c:dQ)(xs:List Int)(ao:c.ok b)(ba:1<=xs.length/\xs.length<=1000):∃(d:dQ) (n:Int),d.ok b/\n∈xs/\b3 prog 37 [.cur (c.e b) (d.e b),.ro (.one (.J 1 (xs.map bb)))] (.vals [.one (I n)]):=by
 obtain⟨d,n,o,ay,r⟩:=dZ b c (xs.length:Int) ao (by omega);obtain⟨x,aq⟩:=c2 (xs:=xs) (i:=n.toNat) (by omega);refine⟨d,x,o,eQ aq,aq1 ⟨?_,ay.1,by grind,by rw[dP,aq];rfl,ad⟩⟩;rw[cr];exact r
end Go.Proofs.YthfnndblgbjniaaGreatDoor
namespace Go.Proofs.YthfnndblgbjniaaGreatDoor
open Go.Sx Go.RowKit Go.Proofs.Tryz
def Input(r:aD):Prop:=r.op=0/\r.bw.ei=0/\(0<=r.bw.bh/\r.bw.bh<=2)/\(0<=r.key/\r.key<12)/\(0<=r.val/\r.val<40)
theorem Rg(b:List Int):∀(n i:Nat) (e:Int) (xs:List aD) (c:dQ),i+n=5->c.ok b->(0<=e/\e<=2)->xs.length<=i->(∀r∈xs,Input r)->
  ∃(ys:List aD) (d:dQ),d.ok b/\ys.length<=5/\(∀r∈ys,Input r)/\c6 prog (ap f118 0) (A1 (b.map hF) i e (xs.map aD.e) c.i c.h) (.exit 0) (Kc (b.map hF) (ys.map aD.e) d.i d.h)
 | n,i,e,xs,c,n8,ao,he,ar,aq=>by
  obtain⟨d1,m,cC,ay,bE⟩:=dZ b c 6 ao (by omega);by_cases h:(i:Int)<m
  ·match n with
   | 0=>omega
   | n+1=>
    obtain⟨d2,a,cg,aj,b0⟩:=dZ b d1 2 cC (by omega);obtain⟨d3,k,cE,ba,ch⟩:=dZ b d2 12 cg (by omega);obtain⟨d4,v,fG,bx,eB⟩:=dZ b d3 40 cE (by omega);have oT:=E0 (e+a) 0 2;have Oi:0<=hJ (e+a) 0 2/\hJ (e+a) 0 2<=2:=by
     unfold hJ;simp only[show ¬(2:Int)<0 by omega,lN];split<;>(try split)<;>omega
    obtain⟨ys,d,o,eD,eX,l⟩:=Rg b n (i+1) (hJ (e+a) 0 2) (xs++[⟨0,⟨hJ (e+a) 0 2,0⟩,k,v⟩]) d4 (by omega) fG Oi (by simp;omega) (fun r aH=>by
     rcases lM.1 aH with aH | aH
     ·exact aq r aH
     rw[List.mem_singleton]at aH;subst aH;exact⟨rfl,rfl,Oi,ba,bx⟩)
    refine⟨ys,d,o,eD,eX,.more ?_ l⟩;rw[gx];exact aqH ⟨bE,kF h,b0,⟨by omega,by omega⟩,oT,ch,eB,by simp;omega,by simp;omega,fA (fun d aI=>by simp only[eK,nP,or_false]at aI;rcases aI with rfl | rfl | rfl | rfl | rfl<;>exact⟨_,rfl⟩),⟨by omega,by omega⟩,ad⟩
  exact⟨xs,d1,cC,by omega,aq,.last (cy 0) (aqI ⟨bE,mg h,ad⟩)⟩
theorem Rh(b:List Int)(c:dQ)(ao:c.ok b):∃(d:dQ) (xs:List aD),d.ok b/\xs.length<=5/\(∀r∈xs,Input r)/\b3 prog 118 [.cur (c.e b) (d.e b)] (.vals [.one (.J 5 (xs.map aD.e))]):=by
 obtain⟨ys,d,o,eD,eX,l⟩:=Rg b 5 0 0 [] c rfl ao (by omega) (by simp) (by simp);exact⟨d,ys,o,eD,eX,aqJ ⟨l,ad⟩⟩
end Go.Proofs.YthfnndblgbjniaaGreatDoor
namespace Go.Proofs.YthfnndblgbjniaaGreatDoor
open Go.Sx Go.RowKit Go.Proofs.Tryz
def s0(r:aD):Bool:=!fb r||r.op != 0||r.bw.ei != 0
def IT(g:b5)(xs:List aD)(w e:Int):List aD:=xs.filter fun r=>r.bw.bh==e&&jx r.key g.az==w
def tT(g:b5)(xs:List aD)(w:Int)(n:Nat):List aD:=(List.range n).flatMap fun e=>IT g xs w (e:Nat)
def own(g:b5)(xs:List aD)(w:Int):List aD:=tT g xs w 4
def s3(xs:List aD):aR:=⟨[],[],xs,[],List.replicate 4 0,List.replicate 4 false,List.replicate 4 false,[]⟩
def qw(cap:Int):br:=⟨hJ cap 1 4,[],hJ cap 1 4,0,0,0⟩
def Fv:bW:=⟨false,0,0,false,false⟩
def rr(g:b5)(xs:List aD)(n:Nat):List aR:=(List.range n).map fun w=>s3 (own g xs (w:Nat))
def nC(g:b5)(xs:List aD):bi:=⟨g,rr g xs g.az.toNat,List.replicate (g.az.toNat*g.az.toNat) (qw g.cap),List.replicate 4 Fv,[]⟩
def Ri:bi:=⟨⟨[],0,0⟩,[],[],[],[]⟩
def pi(g:b5)(xs:List aD):Bool:=ev g&&decide (xs.length<=20)&&!xs.any s0
def yo(g:b5)(xs:List aD):bi×Bool:=if pi g xs then (nC g xs,true) else (Ri,false)
theorem asb(g:b5)(xs:List aD)(w:Int)(n:Nat):tT g xs w (n+1)=tT g xs w n++IT g xs w (n:Nat):=by
 simp[tT,List.range_succ]
theorem Rj(g:b5)(xs:List aD)(w:Int)(n:Nat):(tT g xs w n).length<=n*xs.length:=by
 have h:=xG (fun e:Nat=>IT g xs w (e:Nat)) xs.length (fun _=>pC _ _) (List.range n);rwa[yI]at h
variable{xs:List aD}
theorem Rk{g:b5}(ar:xs.length<=20)(w:Int):(own g xs w).length<=80:=by
 have:=Rj g xs w 4;unfold own;omega
theorem asc{g:b5}(ar:xs.length<=20)(w:Int){n:Nat}(a':n<4):(tT g xs w n).length<=60:=by
 have:=Rj g xs w n;have:n*xs.length<=3*20:=Nat.mul_le_mul (by omega) ar;omega
theorem asd(g:b5)(xs:List aD)(n:Nat):rr g xs (n+1)=rr g xs n++[s3 (own g xs (n:Nat))]:=by
 simp[rr,List.range_succ]
theorem Kl(g:b5)(xs:List aD)(n:Nat):(rr g xs n).length=n:=by simp[rr]
theorem ase{α:Type}{f:α->List D}{x:α}{m:Nat}:(List.replicate m x).map f++[f x]=(List.replicate (m+1) x).map f:=by
 rw[List.replicate_succ',gx];rfl
theorem Rl(cap:Int):al 170 [.one (I cap)] [.agg (qw cap).e]:=ar5 ⟨E0 cap 1 4,ad⟩
theorem Rm(xs:List aD)(ar:xs.length<=1000):al 168 [.one (.J 5 (xs.map aD.e))] [.agg (s3 xs).e]:=
 ar6 ⟨nl (by simp;omega),ky (by simp;omega),dE _ aD.flat _,by omega,by omega,by decide,by omega,by omega,by omega,by decide,by omega,by omega,by omega,by decide,by omega,ad⟩
theorem asf(g:b5)(xs:List aD)(w:Int)(a':1<=g.az/\g.az<=4)(ar:xs.length<=20):al 169 [.agg g.e,.one (.J 5 (xs.map aD.e)),.one (I w)] [.one (.J 5 ((own g xs w).map aD.e))]:=by
 have ku:=fun (e:Nat) (he:e<4) (acc:List aD) (aj:acc.length<=100)=>er (P:=prog) (c:=(ap f169 1)) (cy 2) xs.length (fun i:Nat=>sZ (g.nodes.map Node.e) g.az g.cap (xs.map aD.e) w e i ((acc++(xs.take i).filter fun r=>r.bw.bh==(e:Int)&&jx r.key g.az==w).map aD.e)) (fun i hi=>by
  obtain⟨r,aH⟩:=c2 hi;have b8:((xs.take i).filter fun r=>r.bw.bh==(e:Int)&&jx r.key g.az==w).length<=20:=by
   have:=pC (fun r:aD=>r.bw.bh==(e:Int)&&jx r.key g.az==w) (xs.take i);have:=Mh i xs;omega
  rw[yi _ aH];generalize (xs.take i).filter (fun r=>r.bw.bh==(e:Int)&&jx r.key g.az==w)=eG at*;have po:=R6 r.key g.az (by omega);cases U:(r.bw.bh==(e:Int)) with
  | false=>
   rw[Bool.false_and,bH (by decide),iz];exact ar0 ⟨cc hi,bB,bI hi,bC aD.e aH,U,dc hi (by omega),ad⟩
  | true=>
   cases aa:(jx r.key g.az==w) with
   | false=>
    rw[Bool.and_false,bH (by decide),iz];exact arZ ⟨cc hi,bB,bI hi,bC aD.e aH,U,bB,bI hi,bC aD.e aH,po,aa,dc hi (by omega),ad⟩
   | true=>
    rw[uW,bL rfl,<-mN,Eh];exact arY ⟨cc hi,bB,bI hi,bC aD.e aH,U,bB,bI hi,bC aD.e aH,po,aa,bB,bI hi,bC aD.e aH,by simp;omega,by simp;omega,fA (aD.flat r),dc hi (by omega),ad⟩) (ar1 ⟨dG,ad⟩)
 have eW:=er (P:=prog) (c:=(ap f169 0)) (cy 0) 4 (fun n:Nat=>A4 (g.nodes.map Node.e) g.az g.cap (xs.map aD.e) w n ((tT g xs w n).map aD.e)) (fun n a'=>by
  have:=ku n a' (tT g xs w n) (by have:=asc (g:=g) ar w a';omega);rw[kX,List.take_zero,List.filter_nil,iz]at this;rw[asb];exact ar2 ⟨dm (by omega),this,⟨by omega,by omega⟩,ad⟩) (ar3 ⟨dX (by omega),ad⟩)
 exact ar4 ⟨eW,ad⟩
theorem Km{g:b5}(h:pi g xs=false):yo g xs=(Ri,false):=by unfold yo;rw[h];rfl
theorem Rn{g:b5}(h:pi g xs=true):yo g xs=(nC g xs,true):=by unfold yo;rw[h];rfl
theorem asg(g:b5)(xs:List aD)(ar:xs.length<=20):
  (xs.any s0=false/\c6 prog (ap f116 0) (qv (xs.map aD.e) 0 0 0 (g.nodes.map Node.e) g.az g.cap) (.exit 0) (Ki (xs.map aD.e) 0 0 (g.nodes.map Node.e) g.az g.cap))\/
  (xs.any s0=true/\c6 prog (ap f116 0) (qv (xs.map aD.e) 0 0 0 (g.nodes.map Node.e) g.az g.cap) .ret (ym false 0 0)):=by
 have l:=gI (P:=prog) (c:=(ap f116 0)) xs s0 (fun i=>qv (xs.map aD.e) i 0 0 (g.nodes.map Node.e) g.az g.cap) (e1:=.ret) (e2:=.exit 0) (X:=fun _ _=>ym false 0 0) ff (cy 0)
  (fun i a aj h=>by
   simp only[s0,gX]at h;have hi:=a7 aj;exact aqn ⟨cc hi,bB,bI hi,bC aD.e aj,s5 a,h.1.1,bB,bI hi,bC aD.e aj,h.1.2,bB,bI hi,bC aD.e aj,h.2,dc hi (by omega),ad⟩)
  (fun i a aj h=>by
   have hi:=a7 aj;have fX:=s5 a;unfold s0 at h;cases U:(!fb a) with
   | true=>exact aqk ⟨cc hi,bB,bI hi,bC aD.e aj,fX,U,ad⟩
   | false=>
    cases aa:(a.op != 0) with
    | true=>exact aql ⟨cc hi,bB,bI hi,bC aD.e aj,fX,U,bB,bI hi,bC aD.e aj,aa,ad⟩
    | false=>
     rw[U,aa,j1,j1]at h;exact aqm ⟨cc hi,bB,bI hi,bC aD.e aj,fX,U,bB,bI hi,bC aD.e aj,aa,bB,bI hi,bC aD.e aj,h,ad⟩)
  (aqo ⟨dG,ad⟩)
 rcases l with⟨_,_,U,aa⟩ | ⟨i,a,_,_,_,_,U,aa⟩
 ·exact .inl ⟨U,aa⟩
 exact .inr ⟨U,aa⟩
theorem ash(g:b5)(xs:List aD)(a':1<=g.az/\g.az<=4)(ar:xs.length<=20):
  c6 prog (ap f116 1) (yn (xs.map aD.e) 0 (g.nodes.map Node.e) g.az g.cap [] [] ((List.replicate 4 Fv).map bW.e) 0 0 (g.nodes.map Node.e) g.az g.cap) (.exit 2)
   (Kj (g.nodes.map Node.e) g.az g.cap ((rr g xs g.az.toNat).map aR.e) ((List.replicate (g.az.toNat*g.az.toNat) (qw g.cap)).map br.e) ((List.replicate 4 Fv).map bW.e) 0 0):=by
 obtain⟨n,C1⟩:∃n:Nat,g.az=n:=⟨g.az.toNat,by omega⟩
 have C0:n<=4:=by omega
 have rh:=fun (w:Nat) (m:Nat) (W T:List (List D)) (hm:m<=16)=>er (P:=prog) (c:=(ap f116 2)) (cy 4) n (fun k:Nat=>A3 (xs.map aD.e) w k (g.nodes.map Node.e) g.az g.cap W ((List.replicate (m+k) (qw g.cap)).map br.e) T 0 0 (g.nodes.map Node.e) g.az g.cap) (fun k ba=>by
  rw[<-Gk,<-ase];exact aqq ⟨dm (by omega),Rl g.cap,by simp;omega,by simp;omega,⟨by omega,by omega⟩,ad⟩) (aqr ⟨dX (by omega),ad⟩)
 have ku:=er (P:=prog) (c:=(ap f116 1)) (cy 2) n (fun w:Nat=>yn (xs.map aD.e) w (g.nodes.map Node.e) g.az g.cap ((rr g xs w).map aR.e) ((List.replicate (w*n) (qw g.cap)).map br.e) ((List.replicate 4 Fv).map bW.e) 0 0 (g.nodes.map Node.e) g.az g.cap) (fun w hw=>by
  have zF:=Kl g xs w;have hm:w*n<=3*4:=Nat.mul_le_mul (by omega) C0;rw[asd,Eh,show (w+1)*n=w*n+n by rw[hq,Nat.one_mul]];exact aqs ⟨dm (by omega),asf g xs w a' ar,Rm _ (by have:=Rk (g:=g) ar (w:Nat);omega),by simp[zF];omega,by simp[zF];omega,rh w (w*n) _ _ (by omega),⟨by omega,by omega⟩,ad⟩) (arW ⟨dX (by omega),ad⟩)
 rw[show ((0:Nat)*n)=0 by omega]at ku;rw[C1,pA];rw[C1]at ku;exact ku
theorem asi(g:b5)(xs:List aD)(ax:g.sz<=8388608):al 116 [.agg g.e,.one (.J 5 (xs.map aD.e))] [.agg (yo g xs).1.e,.one (B (yo g xs).2)]:=by
 have wZ:=xJ g ax;cases U:ev g with
 | false=>
  rw[U]at wZ;rw[Km (by unfold pi;rw[U];rfl)];exact aqS ⟨wZ,rfl,ad⟩
 | true=>
 rw[U]at wZ;by_cases ar:xs.length<=20
 case neg=>
  rw[Km (by unfold pi;rw[mg ar,Bool.and_false];rfl)];exact aqj ⟨wZ,rfl,dm (by simp;omega),ad⟩
 rcases asg g xs ar with⟨aa,l⟩ | ⟨aa,l⟩
 ·rw[Rn (by unfold pi;rw[U,aa,kF ar];rfl)];exact arX ⟨wZ,rfl,dX (by simp;omega),l,Tb g ax,by omega,by omega,by decide,by omega,ash g xs (mc U) ar,ad⟩
 rw[Km (by unfold pi;rw[aa];simp)];exact aqp ⟨wZ,rfl,dX (by simp;omega),l,ad⟩
end Go.Proofs.YthfnndblgbjniaaGreatDoor
namespace Go.Proofs.YthfnndblgbjniaaGreatDoor
open Go.Sx Go.RowKit Go.Proofs.Tryz
def xD(k a b:Int):List Node:=[⟨1,0,0,[1]⟩,⟨k,0,0,[2,5]⟩,⟨4,1+a,0,[3]⟩,⟨2,b,0,[4]⟩,⟨7,0,0,[1]⟩,⟨8,0,0,[]⟩]
def pt(k a b c:Int):Nat->List Node
 | 0=>(xD k a b).set 3 ⟨3,1+c,0,[4]⟩
 | 1=>(xD k a b).set 4 ⟨8,0,0,[]⟩
 | 2=>(xD k a b).set 2 ⟨4,1+a,0,[3,4]⟩
 | 3=>(xD k a b++[(⟨8,0,0,[]⟩:Node)]).set 0 ⟨1,0,0,[1,6]⟩
 | _=>xD k a b
structure mh (g:b5):Prop where
 nodes:∃(k a b c:Int) (v:Nat),(k=5\/k=6)/\(0<=a/\a<3)/\(0<=b/\b<4)/\(0<=c/\c<3)/\v<=4/\g.nodes=pt k a b c v
 az:1<=g.az/\g.az<=3
 cap:1<=g.cap/\g.cap<=3
theorem mh.ok{g:b5}(h:mh g):ev g=true:=by
 obtain⟨⟨k,a,b,c,v,ba,aj,ay,ao,bx,a'⟩,hw,gE⟩:=h;obtain⟨nodes,az,cap⟩:=g;simp only at a' hw gE;have axv:a=0\/a=1\/a=2:=by omega
 have axw:b=0\/b=1\/b=2\/b=3:=by omega
 have axx:c=0\/c=1\/c=2:=by omega
 have bn:v=0\/v=1\/v=2\/v=3\/v=4:=by omega
 have axA:az=1\/az=2\/az=3:=by omega
 have cL:cap=1\/cap=2\/cap=3:=by omega
 have key:∀k∈[(5:Int),6],∀a∈[(0:Int),1,2],∀b∈[(0:Int),1,2,3],∀c∈[(0:Int),1,2],∀v∈[0,1,2,3,4],(!(anyI (jv ⟨pt k a b c v,1,1⟩) 0 (pt k a b c v))&&decide ((pt k a b c v).length<=7)&&decide (1<=(pt k a b c v).length))=true:=by decide +kernel
 have:=key k (by grind) a (by grind) b (by grind) c (by grind) v (by rcases bn with h | h | h | h | h<;>simp[h]);simp only[cH,c3]at this;obtain⟨⟨U,aa⟩,aB⟩:=this;subst a';have Zd:jv ⟨pt k a b c v,az,cap⟩=jv ⟨pt k a b c v,1,1⟩:=rfl;unfold ev;simp only[cH];rw[Zd];refine⟨⟨⟨?_,?_⟩,?_⟩,U⟩
 ·simp only[av,cH,c3];omega
 ·simp only[av,cH,c3];omega
 simp only[av,cH,c3];omega
theorem Ro(b:List Int)(c:dQ)(ao:c.ok b):∃(d:dQ) (g:b5),d.ok b/\mh g/\b3 prog 117 [.cur (c.e b) (d.e b)] (.vals [.agg g.e]):=by
 obtain⟨d1,hI,cC,U,bE⟩:=dZ b c 3 ao (by omega);obtain⟨d2,ih,cg,aa,b0⟩:=dZ b d1 3 cC (by omega);obtain⟨d3,x,cE,ch⟩:=EX b d2 3 cg (by omega);obtain⟨d4,iN,fG,aJ,eB⟩:=dZ b d3 3 cE (by omega);obtain⟨d5,kx,sD,a6,ki⟩:=dZ b d4 4 fG (by omega);obtain⟨d6,n6,Z',bF,oE⟩:=dZ b d5 3 sD (by omega);obtain⟨d7,sB,aab,bY,rJ⟩:=dZ b d6 6 Z' (by omega);have i1:aK .i64 (1+hI):=⟨by omega,by omega⟩
 have i2:aK .i64 (1+ih):=⟨by omega,by omega⟩
 have i4:aK .i64 (1+iN):=⟨by omega,by omega⟩
 have i6:aK .i64 (1+n6):=⟨by omega,by omega⟩
 have fin:∀(k:Int) (v:Nat) {ds:List (List D)},(k=5\/k=6)->v<=4->mi ds ((pt k iN kx n6 v).map Node.e)->b3 prog 117 [.cur (c.e b) (d7.e b)] (.vals [.agg [.J 4 ds,I (1+hI),I (1+ih)]])->
   ∃(d:dQ) (g:b5),d.ok b/\mh g/\b3 prog 117 [.cur (c.e b) (d.e b)] (.vals [.agg g.e]):=by
  intro k v ds ba bx b8 aH;exact⟨d7,⟨pt k iN kx n6 v,1+hI,1+ih⟩,aab,⟨⟨k,iN,kx,n6,v,ba,aJ,a6,bF,bx,rfl⟩,by grind,by grind⟩,
   aH.fit (.cons (.agg (.cons (.J 4 b8) (kH.refl _))) .nil)⟩
 have f1:∀d,Fit d d:=.refl;by_cases bz:sB=0
 ·cases x
  ·exact fin 5 0 (.inl rfl) (by omega) (by repeat (first | exact .refl _ | constructor)) (arj ⟨bE,i1,b0,i2,ch,rfl,eB,i4,ki,oE,i6,rJ,by simp[bz],by omega,by simp,rfl,ad⟩)
  exact fin 6 0 (.inr rfl) (by omega) (by repeat (first | exact .refl _ | constructor)) (arc ⟨bE,i1,b0,i2,ch,rfl,eB,i4,ki,oE,i6,rJ,by simp[bz],by omega,by simp,rfl,ad⟩)
 by_cases e1:sB=1
 ·cases x
  ·exact fin 5 1 (.inl rfl) (by omega) (by repeat (first | exact .refl _ | constructor)) (ark ⟨bE,i1,b0,i2,ch,rfl,eB,i4,ki,oE,i6,rJ,by simp[bz],by simp[e1],by omega,by simp,rfl,ad⟩)
  exact fin 6 1 (.inr rfl) (by omega) (by repeat (first | exact .refl _ | constructor)) (ard ⟨bE,i1,b0,i2,ch,rfl,eB,i4,ki,oE,i6,rJ,by simp[bz],by simp[e1],by omega,by simp,rfl,ad⟩)
 by_cases e2:sB=2
 ·cases x
  ·exact fin 5 2 (.inl rfl) (by omega) (by repeat (first | exact .refl _ | constructor)) (aqt ⟨bE,i1,b0,i2,ch,rfl,eB,i4,ki,oE,i6,rJ,by simp[bz],by simp[e1],by simp[e2],by omega,by simp,rfl,ad⟩)
  exact fin 6 2 (.inr rfl) (by omega) (by repeat (first | exact .refl _ | constructor)) (arf ⟨bE,i1,b0,i2,ch,rfl,eB,i4,ki,oE,i6,rJ,by simp[bz],by simp[e1],by simp[e2],by omega,by simp,rfl,ad⟩)
 by_cases cn:sB=3
 ·cases x
  ·exact fin 5 3 (.inl rfl) (by omega) (by repeat (first | exact .refl _ | constructor)) (aqu ⟨bE,i1,b0,i2,ch,rfl,eB,i4,ki,oE,i6,rJ,by simp[bz],by simp[e1],by simp[e2],by simp[cn],by simp,by simp,by omega,by simp,rfl,ad⟩)
  exact fin 6 3 (.inr rfl) (by omega) (by repeat (first | exact .refl _ | constructor)) (arh ⟨bE,i1,b0,i2,ch,rfl,eB,i4,ki,oE,i6,rJ,by simp[bz],by simp[e1],by simp[e2],by simp[cn],by simp,by simp,by omega,by simp,rfl,ad⟩)
 cases x
 ·exact fin 5 4 (.inl rfl) (by omega) (by repeat (first | exact .refl _ | constructor)) (aqv ⟨bE,i1,b0,i2,ch,rfl,eB,i4,ki,oE,i6,rJ,by simp[bz],by simp[e1],by simp[e2],by simp[cn],ad⟩)
 exact fin 6 4 (.inr rfl) (by omega) (by repeat (first | exact .refl _ | constructor)) (ari ⟨bE,i1,b0,i2,ch,rfl,eB,i4,ki,oE,i6,rJ,by simp[bz],by simp[e1],by simp[e2],by simp[cn],ad⟩)
def xE(p:cf):Prop:=(1<=p.kind/\p.kind<=7)/\(0<=p.a/\p.a<3)/\(0<=p.b/\p.b<3)
theorem Rp(b:List Int)(c:dQ)(ao:c.ok b):∃(d:dQ) (p:cf),d.ok b/\xE p/\b3 prog 95 [.cur (c.e b) (d.e b)] (.vals [.agg p.e]):=by
 obtain⟨d1,k,cC,U,bE⟩:=k' b c [1,1,1,2,3,3,3,4,4,5,6,6,7] ao (by simp);obtain⟨d2,a,cg,aa,b0⟩:=dZ b d1 3 cC (by omega);have ba:1<=k/\k<=7:=by
  simp only[eK,nP,or_false]at U;omega
 by_cases ed:k=4
 ·obtain⟨d3,m,cE,aB,ch⟩:=dZ b d2 2 cg (by omega);have tN:aK .i64 (a+1):=⟨by omega,by omega⟩
  have sv:aK .i64 (a+1+m):=⟨by omega,by omega⟩
  exact⟨d3,⟨k,a,(a+1+m).tmod 3⟩,cE,⟨ba,aa,Int.tmod_nonneg _ (by omega),Int.tmod_lt_of_pos _ (by omega)⟩,aqL ⟨bE,b0,by simp[ed],aqK ⟨tN,ch,sv,by decide,ad⟩,ad⟩⟩
 by_cases hP:k=5
 ·obtain⟨d3,m,cE,aB,ch⟩:=dZ b d2 2 cg (by omega);have tN:aK .i64 (a+1):=⟨by omega,by omega⟩
  have sv:aK .i64 (a+1+m):=⟨by omega,by omega⟩
  exact⟨d3,⟨k,a,(a+1+m).tmod 3⟩,cE,⟨ba,aa,Int.tmod_nonneg _ (by omega),Int.tmod_lt_of_pos _ (by omega)⟩,aqN ⟨bE,b0,by simp[ed],by simp[hP],aqM ⟨tN,ch,sv,by decide,ad⟩,ad⟩⟩
 exact⟨d2,⟨k,a,0⟩,cg,⟨ba,aa,by grind⟩,aqO ⟨bE,b0,by simp[ed],by simp[hP],ad⟩⟩
theorem X1(p:cf):Flat [p.e]:=fA fun d aI=>by
 simp only[cf.e,eK,nP,or_false]at aI;grind
theorem Rq(b:List Int)(m:Nat)(hm:m<=1000):∀(n i:Nat) (xs:List cf) (c:dQ),i+n=m+1->c.ok b->xs.length<=i->(∀p∈xs,xE p)->
  ∃(ys:List cf) (d:dQ),d.ok b/\ys.length<=m+1/\(∀p∈ys,xE p)/\c6 prog (ap f66 0) (A2 (b.map hF) m i (xs.map cf.e) c.i c.h) (.exit 0) (Kh (b.map hF) (ys.map cf.e) d.i d.h)
 | n,i,xs,c,n8,ao,ar,aq=>by
  obtain⟨d1,k,cC,ba,bE⟩:=dZ b c ((m:Int)+1) ao (by omega);by_cases h:(i:Int)<k
  ·match n with
   | 0=>omega
   | n+1=>
    obtain⟨d2,p,cg,hp,b0⟩:=Rp b d1 cC;obtain⟨ys,d,o,eD,eX,l⟩:=Rq b m hm n (i+1) (xs++[p]) d2 (by omega) cg (by simp;omega) (fun z bp=>by
     grind)
    refine⟨ys,d,o,eD,eX,.more ?_ l⟩;rw[gx];exact aqP ⟨⟨by omega,by omega⟩,bE,kF h,b0,by simp;omega,by simp;omega,X1 p,⟨by omega,by omega⟩,ad⟩
  exact⟨xs,d1,cC,by omega,aq,.last (cy 0) (aqQ ⟨⟨by omega,by omega⟩,bE,mg h,ad⟩)⟩
theorem Rr(b:List Int)(c:dQ)(m:Nat)(hm:m<=1000)(ao:c.ok b):∃(d:dQ) (b7:List cf),d.ok b/\b7.length<=m+1/\(∀p∈b7,xE p)/\b3 prog 66 [.cur (c.e b) (d.e b),.ro (.one (I m))] (.vals [.one (.J 3 (b7.map cf.e))]):=by
 obtain⟨ys,d,o,eD,eX,l⟩:=Rq b m hm (m+1) 0 [] c (by omega) ao (by simp) (by simp);exact⟨d,ys,o,eD,eX,aqR ⟨l,ad⟩⟩
end Go.Proofs.YthfnndblgbjniaaGreatDoor
namespace Go.Proofs.YthfnndblgbjniaaGreatDoor
open Go.Sx Go.RowKit Go.Proofs.Tryz
theorem Kn{α:Type}{f:α->Nat}{k:Nat}:∀{xs:List α},(∀x∈xs,f x<=k)->(xs.map f).sum<=xs.length*k
 | [],_=>by simp
 | a::xs,h=>by
  have U:=h a (by simp);have aa:=Kn (f:=f) (k:=k) (xs:=xs) (fun x aq=>h x (by simp[aq]));simp only[mM,Gl,ic,hq,Nat.one_mul];omega
theorem Ko{g:b5}{xs:List aD}:pi g xs=true<->ev g=true/\xs.length<=20/\xs.any s0=false:=by
 simp only[pi,cH,c3,i',and_assoc]
theorem asj{g:b5}{xs:List aD}(h:pi g xs=true):(nC g xs).sz<=g.sz+1000:=by
 obtain⟨U,aa,_⟩:=Ko.1 h;have a':=mc U;obtain⟨n,C1⟩:∃n:Nat,g.az=n:=⟨g.az.toNat,by omega⟩
 have a:=Kn (f:=aR.sz) (k:=92) (xs:=rr g xs n) (fun x aq=>by
  simp only[rr,mO]at aq;obtain⟨w,_,rfl⟩:=aq;have:=Rk (g:=g) aa (w:Nat);simp only[s3,aR.sz,eh,List.length_replicate];omega)
 have b:=Kn (f:=br.sz) (k:=0) (xs:=List.replicate (n*n) (qw g.cap)) (fun x aq=>by
  rw[List.eq_of_mem_replicate aq];simp[qw,br.sz])
 have hm:n*n<=4*4:=Nat.mul_le_mul (by omega) (by omega);simp only[nC,bi.sz,fr,C1,pA,List.length_replicate,eh,Kl]at a b ⊢;omega
theorem asl(g:b5)(xs:List aD):fs (nC g xs):=by
 intro l ar;have:=List.eq_of_mem_replicate ar;subst this;simp[qw]
end Go.Proofs.YthfnndblgbjniaaGreatDoor
namespace Go.Proofs.YthfnndblgbjniaaGreatDoor
open Go.Sx Go.RowKit Go.Proofs.Tryz
theorem mh.size{g:b5}(h:mh g):g.sz<=100:=by
 obtain⟨⟨k,a,b,c,v,ba,aj,ay,ao,bx,a'⟩,hw,gE⟩:=h;obtain⟨nodes,az,cap⟩:=g;simp only at a';subst a';have e:(⟨pt k a b c v,az,cap⟩:b5).sz=fr Node.sz (pt k a b c v):=rfl;rw[e];have bn:v=0\/v=1\/v=2\/v=3\/v=4:=by omega
 rcases bn with rfl | rfl | rfl | rfl | rfl<;>simp[fr,pt,xD,Node.sz]
theorem Input.XY{r:aD}(h:Input r):s0 r=false:=by
 obtain⟨U,aa,aB,aJ,a6⟩:=h;have ok:fb r=true:=by
  simp only[fb,hK,fq,av,cH,c3,U,aa];omega
 simp[s0,ok,U,aa]
theorem asm{g:b5}{xs:List aD}(ax:mh g)(ar:xs.length<=6)(aq:∀r∈xs,Input r):pi g xs=true:=
 Ko.2 ⟨ax.ok,by omega,hW.2 fun r aH=>by simp[(aq r aH).XY]⟩
end Go.Proofs.YthfnndblgbjniaaGreatDoor
namespace Go.Proofs.YthfnndblgbjniaaGreatDoor
open Go.Sx Go.RowKit Go.Proofs.Tryz
def Fair(r:aD):Prop:=(0<=r.op/\r.op<5)/\(0<=r.bw.bh/\r.bw.bh<4)/\(0<=r.bw.ei/\r.bw.ei<5)/\(0<=r.key/\r.key<12)/\(0<=r.val/\r.val<40)
theorem re{n:Int}(U:-9223372036854775808<=n)(aa:n<=9223372036854775807):aK .i64 n:=⟨U,aa⟩
theorem Fair.wf{r:aD}(h:Fair r):r.wf:=by
 obtain⟨U,aa,aB,aJ,a6⟩:=h;exact⟨re (by omega) (by omega),⟨re (by omega) (by omega),re (by omega) (by omega)⟩,re (by omega) (by omega),re (by omega) (by omega)⟩
theorem Rs(b:List Int)(c:dQ)(ao:c.ok b):∃(d:dQ) (s:gY),d.ok b/\((0<=s.bh/\s.bh<4)/\(0<=s.ei/\s.ei<5))/\b3 prog 177 [.cur (c.e b) (d.e b)] (.vals [.agg s.e]):=by
 obtain⟨d1,x,cC,U,bE⟩:=dZ b c 4 ao (by omega);obtain⟨d2,y,cg,aa,b0⟩:=dZ b d1 5 cC (by omega);exact⟨d2,⟨x,y⟩,cg,⟨U,aa⟩,aq2 ⟨bE,b0,ad⟩⟩
theorem vK{n:Int}{xs:List Int}(h:n∈xs)(aq:(xs.all fun x=>decide (-9223372036854775808<=x)&&decide (x<=9223372036854775807))=true):aK .i64 n:=by
 have:=fU.1 aq n h;simp only[cH,c3]at this;exact this
theorem arw(b:List Int)(c:dQ)(ao:c.ok b):∃(d:dQ) (s:gY),d.ok b/\s.wf/\b3 prog 176 [.cur (c.e b) (d.e b)] (.vals [.agg s.e]):=by
 obtain⟨d1,s,cC,⟨U,aa⟩,bE⟩:=Rs b c ao;obtain⟨d2,k,cg,aB,b0⟩:=dZ b d1 10 cC (by omega);have w1:aK .i64 s.bh:=re (by omega) (by omega);have fO:aK .i64 s.ei:=re (by omega) (by omega);by_cases bz:k=0
 ·obtain⟨d3,x,cE,aJ,ch⟩:=k' b d2 [-1,3,4,9223372036854775807] cg (by simp);exact⟨d3,⟨x,s.ei⟩,cE,⟨vK aJ (by decide),fO⟩,aq3 ⟨bE,b0,by simp[bz],ch,ad⟩⟩
 by_cases e1:k=1
 ·obtain⟨d3,x,cE,aJ,ch⟩:=k' b d2 [-1,5,6,7,-9223372036854775808] cg (by simp);exact⟨d3,⟨s.bh,x⟩,cE,⟨w1,vK aJ (by decide)⟩,aq4 ⟨bE,b0,by simp[bz],by simp[e1],ch,ad⟩⟩
 exact⟨d2,s,cg,⟨w1,fO⟩,aq5 ⟨bE,b0,by simp[bz],by simp[e1],ad⟩⟩
theorem EY(b:List Int)(c:dQ)(ao:c.ok b):∃(d:dQ) (r:aD),d.ok b/\Fair r/\b3 prog 122 [.cur (c.e b) (d.e b)] (.vals [.agg r.e]):=by
 obtain⟨d1,x,cC,U,bE⟩:=dZ b c 5 ao (by omega);obtain⟨d2,s,cg,⟨aa,aB⟩,b0⟩:=Rs b d1 cC;obtain⟨d3,k,cE,aJ,ch⟩:=dZ b d2 12 cg (by omega);obtain⟨d4,v,fG,a6,eB⟩:=dZ b d3 40 cE (by omega);exact⟨d4,⟨x,s,k,v⟩,fG,⟨U,aa,aB,aJ,a6⟩,aq6 ⟨bE,b0,ch,eB,ad⟩⟩
theorem Rt(b:List Int)(c:dQ)(ao:c.ok b):∃(d:dQ) (r:aD),d.ok b/\r.wf/\b3 prog 121 [.cur (c.e b) (d.e b)] (.vals [.agg r.e]):=by
 obtain⟨d1,r,cC,aH,bE⟩:=EY b c ao;obtain⟨w1,fO,te,Mu⟩:=aH.wf;obtain⟨d2,k,cg,aB,b0⟩:=dZ b d1 12 cC (by omega);by_cases bz:k=0
 ·obtain⟨d3,x,cE,aJ,ch⟩:=k' b d2 [-1,7,8] cg (by simp);exact⟨d3,⟨x,r.bw,r.key,r.val⟩,cE,⟨vK aJ (by decide),fO,te,Mu⟩,aq7 ⟨bE,b0,by simp[bz],ch,ad⟩⟩
 by_cases e1:k=1
 ·obtain⟨d3,s,cE,aJ,ch⟩:=arw b d2 cg;exact⟨d3,⟨r.op,s,r.key,r.val⟩,cE,⟨w1,aJ,te,Mu⟩,aq8 ⟨bE,b0,by simp[bz],by simp[e1],ch,ad⟩⟩
 by_cases e2:k=2
 ·obtain⟨d3,x,cE,aJ,ch⟩:=k' b d2 [-1,99,100,-9223372036854775808] cg (by simp);exact⟨d3,⟨r.op,r.bw,x,r.val⟩,cE,⟨w1,fO,vK aJ (by decide),Mu⟩,aq9 ⟨bE,b0,by simp[bz],by simp[e1],by simp[e2],ch,ad⟩⟩
 by_cases cn:k=3
 ·obtain⟨d3,x,cE,aJ,ch⟩:=k' b d2 [-1,999,1000,9223372036854775807] cg (by simp);exact⟨d3,⟨r.op,r.bw,r.key,x⟩,cE,⟨w1,fO,te,vK aJ (by decide)⟩,ara ⟨bE,b0,by simp[bz],by simp[e1],by simp[e2],by simp[cn],ch,ad⟩⟩
 exact⟨d2,r,cg,aH.wf,arb ⟨bE,b0,by simp[bz],by simp[e1],by simp[e2],by simp[cn],ad⟩⟩
theorem GQ(r:aD):Flat [r.e]:=fA fun d aI=>by
 simp only[aD.e,eK,nP,or_false]at aI;grind
