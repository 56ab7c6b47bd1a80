import Derived.Test.YtdchjefneblpgaaGreatT5
import Derived.Test.YtdchjefneblpgaaGreatR35
import Derived.Test.YtdchjefneblpgaaGreatGD
import Derived.Test.YtdchjefneblpgaaGreatP50
import Derived.Test.YtdchjefneblpgaaGreatGY
set_option linter.unusedVariables false
set_option linter.unusedSimpArgs false
namespace Go.Proofs.YtdchjefneblpgaaGreat
open Go.Sx Go.RowKit Go.Proofs.Tryz
def hd(n:Int):List D:=[.v (.int .u8 n)]
structure dC where
 i:Int
 h:Int
def dC.e(b:List Int)(c:dC):List D:=[.J 1 (b.map hd),I c.i,I c.h]
def Bytes(b:List Int):Prop:=b.length<=8388608/\∀x∈b,0<=x/\x<=255
def dC.ok(b:List Int)(c:dC):Prop:=Bytes b/\0<=c.i/\c.i<=b.length
theorem ass{P:Program}{t:TypeId}{ds:List D}(hu:P.underlying t=some (.int .u8))(h:ji P t ds):∃n,ds=hd n/\0<=n/\n<=255:=by
 have U:∃n,ds=[.v (.int .u8 n)]/\(Lit.int .u8 n).wf=true:=by cases h<;>simp_all
 obtain⟨n,e,hw⟩:=U;refine⟨n,e,?_⟩;simp[Lit.wf]at hw;have ax:IntKind.u8.min=0:=rfl;rw[ax]at hw;exact hw
theorem ak1:prog.cellsOf 5=1:=by kernel_rfl
theorem ak2{ds:List D}(h:ji prog 22 ds):∃xs:List Int,ds=[.J 1 (xs.map hd)]/\(xs.length:Int)<=9223372036854775807/\∀a∈xs,(fun n=>0<=n/\n<=255) a:=
 ajW hd (fun n=>0<=n/\n<=255) Tryz.underlying22 ak1 (fun ds h=>ass Tryz.underlying5 h) h
theorem ak3{cj:cF}(h:BF prog 22 cj):∃xs:List Int,cj=.one (.J 1 (xs.map hd))/\(xs.length:Int)<=9223372036854775807/\∀a∈xs,(fun n=>0<=n/\n<=255) a:=by
 cases cj with
 | agg ds=>have:=h.2;simp[rn,Tryz.underlying22]at this
 | one d=>
  obtain⟨x,e,ag⟩:=ak2 h.1;obtain rfl:=(VW e).1;exact⟨x,rfl,ag⟩
theorem Py{P:Program}(a:Int)(n:Nat):∃m:Int,∀t x y,lp P .shr t x y (.int .i64 a) (.int .u64 (n:Int)) (.int .i64 m):=⟨_,fun _ _ _=>alz⟩
theorem ak4{P:Program}(a b:Int):∃m:Int,∀t x y,lp P .xor t x y (.int .i64 a) (.int .i64 b) (.int .i64 m):=⟨_,fun _ _ _=>alA⟩
theorem J9{P:Program}(a:Int)(k:Nat)(hk:k<2 ^ 62):∃m:Int,(0<=m/\m<=k)/\∀t x y,lp P .and t x y (.int .i64 a) (.int .i64 (k:Int)) (.int .i64 m):=⟨_,alC a k hk,fun _ _ _=>alB⟩
theorem Pz(b:List Int)(aq:Bytes b):∀(n i:Nat) (h:Int),i+n=b.length->0<=h/\h<=1073741823->∃iP,c0 prog (ar f117 0) (xC (b.map hd) i h) (.exit 0) (C9 (b.map hd) iP)
 | 0,i,h,hi,bB=>⟨h,.last (cM 0) (alF ⟨by rw[ki,bm];omega,aa⟩)⟩
 | n+1,i,h,hi,bB=>by
  have ak:=aq.1;obtain⟨x,ag⟩:=cY (xs:=b) (i:=i) (by omega);have aq:=aq.2 x (eX ag);by_cases aK:(i:Int)<4000
  ·obtain⟨m,hm,r⟩:=J9 (P:=prog) (h*131+x+7) 1073741823 (by decide);obtain⟨iP,l⟩:=Pz b ‹Bytes b› n (i+1) m (by omega) hm;exact⟨iP,.more (alD ⟨cf (by omega),j3 aK,⟨by omega,by omega⟩,bG,bL (by omega),bF hd ag,⟨by omega,by omega⟩,⟨by omega,by omega⟩,⟨by omega,by omega⟩,r _ _ _,⟨by omega,by omega⟩,aa⟩) l⟩
  exact⟨h,.last (cM 0) (alE ⟨cf (by omega),ly aK,aa⟩)⟩
theorem PA(b:List Int)(aq:Bytes b):∃c:dC,c.ok b/\bT prog 117 [.ro (.one (.J 1 (b.map hd)))] (.h7 [some 0,none,none] (c.e b)):=by
 have ak:=aq.1;obtain⟨iP,l⟩:=Pz b aq b.length 0 (94701+(↑(b.map hd).length:Int)) (by omega) ⟨by omega,by simp;omega⟩;exact⟨⟨0,iP⟩,⟨aq,by dsimp only;omega,by dsimp only;omega⟩,alG ⟨⟨by omega,by simp;omega⟩,l,aa⟩⟩
theorem Da(b:List Int)(c:dC)(ah:c.ok b):∃(d:dC) (n:Int),d.ok b/\(0<=n/\n<=255)/\bT prog 253 [.cur (c.e b) (d.e b)] (.vals [.one (I n)]):=by
 obtain⟨⟨h1,U⟩,ax,aK⟩:=ah;obtain⟨lc,ch⟩:=Py (P:=prog) (IntKind.i64.wrap (IntKind.i64.wrap (c.h*6364136223846793005)+1442695040888963407)) 33;obtain⟨jU,ei⟩:=Py (P:=prog) (IntKind.i64.wrap (IntKind.i64.wrap (c.h*6364136223846793005)+1442695040888963407)) 45;obtain⟨ks,jE⟩:=ak4 (P:=prog) lc jU;obtain⟨n6,m6,nZ⟩:=J9 (P:=prog) ks 255 (by decide);by_cases hi:c.i<b.length
 ·obtain⟨x,ag⟩:=cY (xs:=b) (i:=c.i.toNat) (by omega);have aq:=U x (eX ag);obtain⟨n8,m8,ar4⟩:=J9 (P:=prog) (IntKind.i64.wrap (n6+IntKind.i64.wrap x)) 255 (by decide);exact⟨⟨c.i+1,IntKind.i64.wrap (IntKind.i64.wrap (c.h*6364136223846793005)+1442695040888963407)⟩,n8,⟨⟨h1,U⟩,by dsimp only;omega,by dsimp only;omega⟩,m8,alH ⟨ch _ _ _,ei _ _ _,jE _ _ _,nZ _ _ _,by rw[cK,bm];exact hi,ax,by rw[bm];exact hi,by rw[dd,ag];rfl,ar4 _ _ _,⟨by omega,by omega⟩,aa⟩⟩
 exact⟨⟨c.i,IntKind.i64.wrap (IntKind.i64.wrap (c.h*6364136223846793005)+1442695040888963407)⟩,n6,⟨⟨h1,U⟩,ax,aK⟩,m6,alI ⟨ch _ _ _,ei _ _ _,jE _ _ _,nZ _ _ _,by rw[ki,bm];exact hi,aa⟩⟩
theorem dW(b:List Int)(c:dC)(k:Int)(ah:c.ok b)(hk:1<=k/\k<=1000000):∃(d:dC) (n:Int),d.ok b/\(0<=n/\n<k)/\bT prog 138 [.cur (c.e b) (d.e b),.ro (.one (I k))] (.vals [.one (I n)]):=by
 have md:∀m:Int,0<=m->0<=m.tmod k/\m.tmod k<k:=fun m hm=>⟨Int.tmod_nonneg _ hm,Int.tmod_lt_of_pos m (by omega)⟩
 obtain⟨d1,jz,cn,gD,bI⟩:=Da b c ah;by_cases h:k<=256
 ·exact⟨d1,_,cn,md jz gD.1,alJ ⟨ly (by omega),j3 h,bI,by omega,aa⟩⟩
 obtain⟨d2,kb,ca,gf,bZ⟩:=Da b d1 cn;obtain⟨d3,lc,cB,yk,ch⟩:=Da b d2 ca;obtain⟨d4,jU,e6,Ft,ei⟩:=Da b d3 cB;exact⟨d4,_,e6,md _ (by omega),alK ⟨ly (by omega),ly h,bI,bZ,ch,ei,⟨by omega,by omega⟩,⟨by omega,by omega⟩,⟨by omega,by omega⟩,⟨by omega,by omega⟩,⟨by omega,by omega⟩,⟨by omega,by omega⟩,by omega,aa⟩⟩
theorem Db(b:List Int)(c:dC)(k:Int)(ah:c.ok b)(hk:1<=k/\k<=1000000):∃(d:dC) (x:Bool),d.ok b/\bT prog 136 [.cur (c.e b) (d.e b),.ro (.one (I k))] (.vals [.one (B x)]):=by
 obtain⟨d,n,o,_,r⟩:=dW b c k ah hk;exact⟨d,_,o,alL ⟨r,aa⟩⟩
theorem ke(b:List Int)(c:dC)(xs:List Int)(ah:c.ok b)(hk:1<=xs.length/\xs.length<=1000):∃(d:dC) (n:Int),d.ok b/\n∈xs/\bT prog 140 [.cur (c.e b) (d.e b),.ro (.one (.J 1 (xs.map a8)))] (.vals [.one (I n)]):=by
 obtain⟨d,n,o,aq,r⟩:=dW b c (xs.length:Int) ah (by omega);obtain⟨x,ag⟩:=cY (xs:=xs) (i:=n.toNat) (by omega);refine⟨d,x,o,eX ag,alM ⟨?_,aq.1,by rw[bm];exact aq.2,by rw[dd,ag];rfl,aa⟩⟩;rw[bm];exact r
end Go.Proofs.YtdchjefneblpgaaGreat
namespace Go.Proofs.YtdchjefneblpgaaGreat
open Go.Sx Go.RowKit Go.Proofs.Tryz
def Input(r:aA):Prop:=r.op=0/\r.bx.dS=0/\(0<=r.bx.bf/\r.bx.bf<=2)/\(0<=r.key/\r.key<12)/\(0<=r.val/\r.val<40)
theorem PB(b:List Int):∀(n i:Nat) (e:Int) (xs:List aA) (c:dC),i+n=5->c.ok b->(0<=e/\e<=2)->xs.length<=i->(∀r∈xs,Input r)->
  ∃(ys:List aA) (d:dC),d.ok b/\ys.length<=5/\(∀r∈ys,Input r)/\c0 prog (ar f119 0) (zE (b.map hd) i e (xs.map aA.e) c.i c.h) (.exit 0) (J3 (b.map hd) (ys.map aA.e) d.i d.h)
 | n,i,e,xs,c,pC,ah,he,ak,ag=>by
  obtain⟨d1,m,cn,aq,bI⟩:=dW b c 6 ah (by omega);by_cases h:(i:Int)<m
  ·match n with
   | 0=>omega
   | n+1=>
    obtain⟨d2,a,ca,aj,bZ⟩:=dW b d1 2 cn (by omega);obtain⟨d3,k,cB,hk,ch⟩:=dW b d2 12 ca (by omega);obtain⟨d4,v,e6,bA,ei⟩:=dW b d3 40 cB (by omega);have od:=Dg (e+a) 0 2;have Nc:0<=hT (e+a) 0 2/\hT (e+a) 0 2<=2:=by
     unfold hT;simp only[show ¬(2:Int)<0 by omega,mY];split<;>(try split)<;>omega
    obtain⟨ys,d,o,ff,fa,l⟩:=PB b n (i+1) (hT (e+a) 0 2) (xs++[⟨0,⟨hT (e+a) 0 2,0⟩,k,v⟩]) d4 (by omega) e6 Nc (by simp;omega) (fun r aD=>by
     rcases mW.1 aD with aD | aD
     ·exact ag r aD
     rw[List.mem_singleton]at aD;subst aD;exact⟨rfl,rfl,Nc,hk,bA⟩)
    refine⟨ys,d,o,ff,fa,.more ?_ l⟩;rw[ha];exact alr ⟨bI,j3 h,bZ,⟨by omega,by omega⟩,od,ch,ei,by simp;omega,by simp;omega,dG (fun d aE=>by simp only[et,mX,or_false]at aE;rcases aE with rfl | rfl | rfl | rfl | rfl<;>exact⟨_,rfl⟩),⟨by omega,by omega⟩,aa⟩
  exact⟨xs,d1,cn,by omega,ag,.last (cM 0) (als ⟨bI,ly h,aa⟩)⟩
theorem PC(b:List Int)(c:dC)(ah:c.ok b):∃(d:dC) (xs:List aA),d.ok b/\xs.length<=5/\(∀r∈xs,Input r)/\bT prog 119 [.cur (c.e b) (d.e b)] (.vals [.one (.J 5 (xs.map aA.e))]):=by
 obtain⟨ys,d,o,ff,fa,l⟩:=PB b 5 0 0 [] c rfl ah (by omega) (by simp) (by simp);exact⟨d,ys,o,ff,fa,alu ⟨l,aa⟩⟩
end Go.Proofs.YtdchjefneblpgaaGreat
namespace Go.Proofs.YtdchjefneblpgaaGreat
open Go.Sx Go.RowKit Go.Proofs.Tryz
def sf(r:aA):Bool:=!fe r||r.op != 0||r.bx.dS != 0
def HM(g:b1)(xs:List aA)(w e:Int):List aA:=xs.filter fun r=>r.bx.bf==e&&ic r.key g.ay==w
def td(g:b1)(xs:List aA)(w:Int)(n:Nat):List aA:=(List.range n).flatMap fun e=>HM g xs w (e:Nat)
def own(g:b1)(xs:List aA)(w:Int):List aA:=td g xs w 4
def sg(xs:List aA):aP:=⟨[],[],xs,[],List.replicate 4 0,List.replicate 4 false,List.replicate 4 false,[]⟩
def p2(cap:Int):bt:=⟨hT cap 1 4,[],hT cap 1 4,0,0,0⟩
def Et:b2:=⟨false,0,0,false,false⟩
def qN(g:b1)(xs:List aA)(n:Nat):List aP:=(List.range n).map fun w=>sg (own g xs (w:Nat))
def iZ(g:b1)(xs:List aA):bb:=⟨g,qN g xs g.ay.toNat,List.replicate (g.ay.toNat*g.ay.toNat) (p2 g.cap),List.replicate 4 Et,[]⟩
def PD:bb:=⟨⟨[],0,0⟩,[],[],[],[]⟩
def nG(g:b1)(xs:List aA):Bool:=eA g&&decide (xs.length<=20)&&!xs.any sf
def xD(g:b1)(xs:List aA):bb×Bool:=if nG g xs then (iZ g xs,true) else (PD,false)
theorem amx(g:b1)(xs:List aA)(w:Int)(n:Nat):td g xs w (n+1)=td g xs w n++HM g xs w (n:Nat):=by
 simp[td,List.range_succ]
theorem PE(g:b1)(xs:List aA)(w:Int)(n:Nat):(td g xs w n).length<=n*xs.length:=by
 have h:=xI (fun e:Nat=>HM g xs w (e:Nat)) xs.length (fun _=>ud _ _) (List.range n);rwa[ye]at h
variable{xs:List aA}
theorem PF{g:b1}(ak:xs.length<=20)(w:Int):(own g xs w).length<=80:=by
 have:=PE g xs w 4;unfold own;omega
theorem amy{g:b1}(ak:xs.length<=20)(w:Int){n:Nat}(aT:n<4):(td g xs w n).length<=60:=by
 have:=PE g xs w n;have:n*xs.length<=3*20:=Nat.mul_le_mul (by omega) ak;omega
theorem amz(g:b1)(xs:List aA)(n:Nat):qN g xs (n+1)=qN g xs n++[sg (own g xs (n:Nat))]:=by
 simp[qN,List.range_succ]
theorem J'(g:b1)(xs:List aA)(n:Nat):(qN g xs n).length=n:=by simp[qN]
theorem amA{α:Type}{f:α->List D}{x:α}{m:Nat}:(List.replicate m x).map f++[f x]=(List.replicate (m+1) x).map f:=by
 rw[List.replicate_succ',ha];rfl
theorem PG(cap:Int):av 126 [.one (I cap)] [.agg (p2 cap).e]:=adS ⟨Dg cap 1 4,aa⟩
theorem PH(xs:List aA)(ak:xs.length<=1000):av 124 [.one (.J 5 (xs.map aA.e))] [.agg (sg xs).e]:=
 adT ⟨nl (by simp;omega),jA (by simp;omega),cr _ aA.flat _,by omega,by omega,by decide,by omega,by omega,by omega,by decide,by omega,by omega,by omega,by decide,by omega,aa⟩
theorem amB(g:b1)(xs:List aA)(w:Int)(aT:1<=g.ay/\g.ay<=4)(ak:xs.length<=20):av 125 [.agg g.e,.one (.J 5 (xs.map aA.e)),.one (I w)] [.one (.J 5 ((own g xs w).map aA.e))]:=by
 have hD:=fun (e:Nat) (he:e<4) (acc:List aA) (aj:acc.length<=100)=>e7 (P:=prog) (c:=(ar f125 1)) (cM 2) xs.length (fun i:Nat=>so (g.nodes.map Node.e) g.ay g.cap (xs.map aA.e) w e i ((acc++(xs.take i).filter fun r=>r.bx.bf==(e:Int)&&ic r.key g.ay==w).map aA.e)) (fun i hi=>by
  obtain⟨r,aD⟩:=cY hi;have bY:((xs.take i).filter fun r=>r.bx.bf==(e:Int)&&ic r.key g.ay==w).length<=20:=by
   have:=ud (fun r:aA=>r.bx.bf==(e:Int)&&ic r.key g.ay==w) (xs.take i);have:=Kr i xs;omega
  rw[Is _ aD];generalize (xs.take i).filter (fun r=>r.bx.bf==(e:Int)&&ic r.key g.ay==w)=ep at*;have oM:=QD r.key g.ay (by omega);cases h1:(r.bx.bf==(e:Int)) with
  | false=>
   rw[Bool.false_and,bg (by decide),lu];exact aen ⟨cf hi,bG,bL hi,bF aA.e aD,h1,dw hi (by omega),aa⟩
  | true=>
   cases U:(ic r.key g.ay==w) with
   | false=>
    rw[Bool.and_false,bg (by decide),lu];exact aem ⟨cf hi,bG,bL hi,bF aA.e aD,h1,bG,bL hi,bF aA.e aD,oM,U,dw hi (by omega),aa⟩
   | true=>
    rw[um,br rfl,<-re,Ko];exact ael ⟨cf hi,bG,bL hi,bF aA.e aD,h1,bG,bL hi,bF aA.e aD,oM,U,bG,bL hi,bF aA.e aD,by simp;omega,by simp;omega,dG (aA.flat r),dw hi (by omega),aa⟩) (aeo ⟨dU,aa⟩)
 have eP:=e7 (P:=prog) (c:=(ar f125 0)) (cM 0) 4 (fun n:Nat=>z1 (g.nodes.map Node.e) g.ay g.cap (xs.map aA.e) w n ((td g xs w n).map aA.e)) (fun n aT=>by
  have:=hD n aT (td g xs w n) (by have:=amy (g:=g) ak w aT;omega);rw[k1,List.take_zero,List.filter_nil,lu]at this;rw[amx];exact aep ⟨dZ (by omega),this,⟨by omega,by omega⟩,aa⟩) (adQ ⟨eD (by omega),aa⟩)
 exact adR ⟨eP,aa⟩
theorem Ka{g:b1}(h:nG g xs=false):xD g xs=(PD,false):=by unfold xD;rw[h];rfl
theorem Kb{g:b1}(h:nG g xs=true):xD g xs=(iZ g xs,true):=by unfold xD;rw[h];rfl
theorem amD(g:b1)(xs:List aA)(ak:xs.length<=20):
  (xs.any sf=false/\c0 prog (ar f14 0) (p8 (xs.map aA.e) 0 0 0 (g.nodes.map Node.e) g.ay g.cap) (.exit 0) (KX (xs.map aA.e) 0 0 (g.nodes.map Node.e) g.ay g.cap))\/
  (xs.any sf=true/\c0 prog (ar f14 0) (p8 (xs.map aA.e) 0 0 0 (g.nodes.map Node.e) g.ay g.cap) .ret (xm false 0 0)):=by
 have l:=hh (P:=prog) (c:=(ar f14 0)) xs sf (fun i=>p8 (xs.map aA.e) i 0 0 (g.nodes.map Node.e) g.ay g.cap) (e1:=.ret) (e2:=.exit 0) (X:=fun _ _=>xm false 0 0) fi (cM 0)
  (fun i a aj h=>by
   simp only[sf,gq]at h;have hi:=a6 aj;exact aed ⟨cf hi,bG,bL hi,bF aA.e aj,si a,h.1.1,bG,bL hi,bF aA.e aj,h.1.2,bG,bL hi,bF aA.e aj,h.2,dw hi (by omega),aa⟩)
  (fun i a aj h=>by
   have hi:=a6 aj;have gF:=si a;unfold sf at h;cases h1:(!fe a) with
   | true=>exact aea ⟨cf hi,bG,bL hi,bF aA.e aj,gF,h1,aa⟩
   | false=>
    cases U:(a.op != 0) with
    | true=>exact aeb ⟨cf hi,bG,bL hi,bF aA.e aj,gF,h1,bG,bL hi,bF aA.e aj,U,aa⟩
    | false=>
     rw[h1,U,jL,jL]at h;exact aec ⟨cf hi,bG,bL hi,bF aA.e aj,gF,h1,bG,bL hi,bF aA.e aj,U,bG,bL hi,bF aA.e aj,h,aa⟩)
  (aee ⟨dU,aa⟩)
 rcases l with⟨_,_,h1,U⟩ | ⟨i,a,_,_,_,_,h1,U⟩
 ·exact .inl ⟨h1,U⟩
 exact .inr ⟨h1,U⟩
theorem amE(g:b1)(xs:List aA)(aT:1<=g.ay/\g.ay<=4)(ak:xs.length<=20):
  c0 prog (ar f14 1) (xn (xs.map aA.e) 0 (g.nodes.map Node.e) g.ay g.cap [] [] ((List.replicate 4 Et).map b2.e) 0 0 (g.nodes.map Node.e) g.ay g.cap) (.exit 2)
   (KY (g.nodes.map Node.e) g.ay g.cap ((qN g xs g.ay.toNat).map aP.e) ((List.replicate (g.ay.toNat*g.ay.toNat) (p2 g.cap)).map bt.e) ((List.replicate 4 Et).map b2.e) 0 0):=by
 obtain⟨n,Ce⟩:∃n:Nat,g.ay=n:=⟨g.ay.toNat,by omega⟩
 have yV:n<=4:=by omega
 have oF:=fun (w:Nat) (m:Nat) (W T:List (List D)) (hm:m<=16)=>e7 (P:=prog) (c:=(ar f14 2)) (cM 4) n (fun k:Nat=>zZ (xs.map aA.e) w k (g.nodes.map Node.e) g.ay g.cap W ((List.replicate (m+k) (p2 g.cap)).map bt.e) T 0 0 (g.nodes.map Node.e) g.ay g.cap) (fun k hk=>by
  rw[<-Bx,<-amA];exact aeg ⟨dZ (by omega),PG g.cap,by simp;omega,by simp;omega,⟨by omega,by omega⟩,aa⟩) (aeh ⟨eD (by omega),aa⟩)
 have hD:=e7 (P:=prog) (c:=(ar f14 1)) (cM 2) n (fun w:Nat=>xn (xs.map aA.e) w (g.nodes.map Node.e) g.ay g.cap ((qN g xs w).map aP.e) ((List.replicate (w*n) (p2 g.cap)).map bt.e) ((List.replicate 4 Et).map b2.e) 0 0 (g.nodes.map Node.e) g.ay g.cap) (fun w hw=>by
  have zc:=J' g xs w;have hm:w*n<=3*4:=Nat.mul_le_mul (by omega) yV;rw[amz,Ko,show (w+1)*n=w*n+n by rw[fo,Nat.one_mul]];exact aei ⟨dZ (by omega),amB g xs w aT ak,PH _ (by have:=PF (g:=g) ak (w:Nat);omega),by simp[zc];omega,by simp[zc];omega,oF w (w*n) _ _ (by omega),⟨by omega,by omega⟩,aa⟩) (aej ⟨eD (by omega),aa⟩)
 rw[show ((0:Nat)*n)=0 by omega]at hD;rw[Ce,l0];rw[Ce]at hD;exact hD
theorem Q8(g:b1)(xs:List aA)(au:g.sz<=8388608):av 14 [.agg g.e,.one (.J 5 (xs.map aA.e))] [.agg (xD g xs).1.e,.one (B (xD g xs).2)]:=by
 have wy:=xK g au;cases h1:eA g with
 | false=>
  rw[h1]at wy;rw[Ka (by unfold nG;rw[h1];rfl)];exact ad8 ⟨wy,rfl,aa⟩
 | true=>
 rw[h1]at wy;by_cases ak:xs.length<=20
 case neg=>
  rw[Ka (by unfold nG;rw[ly ak,Bool.and_false];rfl)];exact ad9 ⟨wy,rfl,dZ (by simp;omega),aa⟩
 rcases amD g xs ak with⟨U,l⟩ | ⟨U,l⟩
 ·rw[Kb (by unfold nG;rw[h1,U,j3 ak];rfl)];exact aek ⟨wy,rfl,eD (by simp;omega),l,RC g au,by omega,by omega,by decide,by omega,amE g xs (lm h1) ak,aa⟩
 rw[Ka (by unfold nG;rw[U];simp)];exact aef ⟨wy,rfl,eD (by simp;omega),l,aa⟩
end Go.Proofs.YtdchjefneblpgaaGreat
namespace Go.Proofs.YtdchjefneblpgaaGreat
open Go.Sx Go.RowKit Go.Proofs.Tryz
def xE(k a b:Int):List Node:=[⟨1,0,0,[1]⟩,⟨k,0,0,[2,5]⟩,⟨4,1+a,0,[3]⟩,⟨2,b,0,[4]⟩,⟨7,0,0,[1]⟩,⟨8,0,0,[]⟩]
def oX(k a b c:Int):Nat->List Node
 | 0=>(xE k a b).set 3 ⟨3,1+c,0,[4]⟩
 | 1=>(xE k a b).set 4 ⟨8,0,0,[]⟩
 | 2=>(xE k a b).set 2 ⟨4,1+a,0,[3,4]⟩
 | 3=>(xE k a b++[(⟨8,0,0,[]⟩:Node)]).set 0 ⟨1,0,0,[1,6]⟩
 | _=>xE k a b
structure lz (g:b1):Prop where
 nodes:∃(k a b c:Int) (v:Nat),(k=5\/k=6)/\(0<=a/\a<3)/\(0<=b/\b<4)/\(0<=c/\c<3)/\v<=4/\g.nodes=oX k a b c v
 ay:1<=g.ay/\g.ay<=3
 cap:1<=g.cap/\g.cap<=3
theorem lz.ok{g:b1}(h:lz g):eA g=true:=by
 obtain⟨⟨k,a,b,c,v,hk,aj,aq,ah,bA,aT⟩,hw,hB⟩:=h;obtain⟨nodes,ay,cap⟩:=g;simp only at aT hw hB;have Wn:a=0\/a=1\/a=2:=by omega
 have Wo:b=0\/b=1\/b=2\/b=3:=by omega
 have Wp:c=0\/c=1\/c=2:=by omega
 have bh:v=0\/v=1\/v=2\/v=3\/v=4:=by omega
 have atf:ay=1\/ay=2\/ay=3:=by omega
 have cX:cap=1\/cap=2\/cap=3:=by omega
 have key:∀k∈[(5:Int),6],∀a∈[(0:Int),1,2],∀b∈[(0:Int),1,2,3],∀c∈[(0:Int),1,2],∀v∈[0,1,2,3,4],(!(anyI (iN ⟨oX k a b c v,1,1⟩) 0 (oX k a b c v))&&decide ((oX k a b c v).length<=7)&&decide (1<=(oX k a b c v).length))=true:=by decide +kernel
 have:=key k (by rcases hk with h | h<;>simp[h]) a (by rcases Wn with h | h | h<;>simp[h]) b (by rcases Wo with h | h | h | h<;>simp[h]) c (by rcases Wp with h | h | h<;>simp[h]) v (by rcases bh with h | h | h | h | h<;>simp[h]);simp only[cq,cK]at this;obtain⟨⟨h1,U⟩,ax⟩:=this;subst aT;have XK:iN ⟨oX k a b c v,ay,cap⟩=iN ⟨oX k a b c v,1,1⟩:=rfl;unfold eA;simp only[cq];rw[XK];refine⟨⟨⟨?_,?_⟩,?_⟩,h1⟩
 ·simp only[ap,cq,cK];omega
 ·simp only[ap,cq,cK];omega
 simp only[ap,cq,cK];omega
theorem Q9(b:List Int)(c:dC)(ah:c.ok b):∃(d:dC) (g:b1),d.ok b/\lz g/\bT prog 118 [.cur (c.e b) (d.e b)] (.vals [.agg g.e]):=by
 obtain⟨d1,jz,cn,h1,bI⟩:=dW b c 3 ah (by omega);obtain⟨d2,kb,ca,U,bZ⟩:=dW b d1 3 cn (by omega);obtain⟨d3,x,cB,ch⟩:=Db b d2 3 ca (by omega);obtain⟨d4,jU,e6,aK,ei⟩:=dW b d3 3 cB (by omega);obtain⟨d5,ks,r3,aV,jE⟩:=dW b d4 4 e6 (by omega);obtain⟨d6,n6,YA,bw,nZ⟩:=dW b d5 3 r3 (by omega);obtain⟨d7,n7,YB,bX,q7⟩:=dW b d6 6 YA (by omega);have i1:az .i64 (1+jz):=⟨by omega,by omega⟩
 have i2:az .i64 (1+kb):=⟨by omega,by omega⟩
 have i4:az .i64 (1+jU):=⟨by omega,by omega⟩
 have i6:az .i64 (1+n6):=⟨by omega,by omega⟩
 have fin:∀(k:Int) (v:Nat) {ds:List (List D)},(k=5\/k=6)->v<=4->lA ds ((oX k jU ks n6 v).map Node.e)->bT prog 118 [.cur (c.e b) (d7.e b)] (.vals [.agg [.J 4 ds,I (1+jz),I (1+kb)]])->
   ∃(d:dC) (g:b1),d.ok b/\lz g/\bT prog 118 [.cur (c.e b) (d.e b)] (.vals [.agg g.e]):=by
  intro k v ds hk bA bY aD;exact⟨d7,⟨oX k jU ks n6 v,1+jz,1+kb⟩,YB,⟨⟨k,jU,ks,n6,v,hk,aK,aV,bw,bA,rfl⟩,by dsimp only;omega,by dsimp only;omega⟩,
   aD.fit (.cons (.agg (.cons (.J 4 bY) (jN.refl _))) .nil)⟩
 have f1:∀d,Fit d d:=.refl;by_cases bz:n7=0
 ·cases x
  ·exact fin 5 0 (.inl rfl) (by omega) (by repeat (first | exact .refl _ | constructor)) (ala ⟨bI,i1,bZ,i2,ch,rfl,ei,i4,jE,nZ,i6,q7,by simp[bz],by omega,by simp,rfl,aa⟩)
  exact fin 6 0 (.inr rfl) (by omega) (by repeat (first | exact .refl _ | constructor)) (ak5 ⟨bI,i1,bZ,i2,ch,rfl,ei,i4,jE,nZ,i6,q7,by simp[bz],by omega,by simp,rfl,aa⟩)
 by_cases e1:n7=1
 ·cases x
  ·exact fin 5 1 (.inl rfl) (by omega) (by repeat (first | exact .refl _ | constructor)) (alb ⟨bI,i1,bZ,i2,ch,rfl,ei,i4,jE,nZ,i6,q7,by simp[bz],by simp[e1],by omega,by simp,rfl,aa⟩)
  exact fin 6 1 (.inr rfl) (by omega) (by repeat (first | exact .refl _ | constructor)) (ak6 ⟨bI,i1,bZ,i2,ch,rfl,ei,i4,jE,nZ,i6,q7,by simp[bz],by simp[e1],by omega,by simp,rfl,aa⟩)
 by_cases e2:n7=2
 ·cases x
  ·exact fin 5 2 (.inl rfl) (by omega) (by repeat (first | exact .refl _ | constructor)) (alc ⟨bI,i1,bZ,i2,ch,rfl,ei,i4,jE,nZ,i6,q7,by simp[bz],by simp[e1],by simp[e2],by omega,by simp,rfl,aa⟩)
  exact fin 6 2 (.inr rfl) (by omega) (by repeat (first | exact .refl _ | constructor)) (ak7 ⟨bI,i1,bZ,i2,ch,rfl,ei,i4,jE,nZ,i6,q7,by simp[bz],by simp[e1],by simp[e2],by omega,by simp,rfl,aa⟩)
 by_cases cc:n7=3
 ·cases x
  ·exact fin 5 3 (.inl rfl) (by omega) (by repeat (first | exact .refl _ | constructor)) (ald ⟨bI,i1,bZ,i2,ch,rfl,ei,i4,jE,nZ,i6,q7,by simp[bz],by simp[e1],by simp[e2],by simp[cc],by simp,by simp,by omega,by simp,rfl,aa⟩)
  exact fin 6 3 (.inr rfl) (by omega) (by repeat (first | exact .refl _ | constructor)) (ak8 ⟨bI,i1,bZ,i2,ch,rfl,ei,i4,jE,nZ,i6,q7,by simp[bz],by simp[e1],by simp[e2],by simp[cc],by simp,by simp,by omega,by simp,rfl,aa⟩)
 cases x
 ·exact fin 5 4 (.inl rfl) (by omega) (by repeat (first | exact .refl _ | constructor)) (ale ⟨bI,i1,bZ,i2,ch,rfl,ei,i4,jE,nZ,i6,q7,by simp[bz],by simp[e1],by simp[e2],by simp[cc],aa⟩)
 exact fin 6 4 (.inr rfl) (by omega) (by repeat (first | exact .refl _ | constructor)) (ak9 ⟨bI,i1,bZ,i2,ch,rfl,ei,i4,jE,nZ,i6,q7,by simp[bz],by simp[e1],by simp[e2],by simp[cc],aa⟩)
def Dc(p:df):Prop:=(1<=p.kind/\p.kind<=7)/\(0<=p.a/\p.a<3)/\(0<=p.b/\p.b<3)
theorem amF(b:List Int)(c:dC)(ah:c.ok b):∃(d:dC) (p:df),d.ok b/\Dc p/\bT prog 242 [.cur (c.e b) (d.e b)] (.vals [.agg p.e]):=by
 obtain⟨d1,k,cn,h1,bI⟩:=ke b c [1,1,1,2,3,3,3,4,4,5,6,6,7] ah (by simp);obtain⟨d2,a,ca,U,bZ⟩:=dW b d1 3 cn (by omega);have hk:1<=k/\k<=7:=by
  simp only[et,mX,or_false]at h1;omega
 by_cases ec:k=4
 ·obtain⟨d3,m,cB,ax,ch⟩:=dW b d2 2 ca (by omega);have pK:az .i64 (a+1):=⟨by omega,by omega⟩
  have qF:az .i64 (a+1+m):=⟨by omega,by omega⟩
  exact⟨d3,⟨k,a,(a+1+m).tmod 3⟩,cB,⟨hk,U,Int.tmod_nonneg _ (by omega),Int.tmod_lt_of_pos _ (by omega)⟩,alw ⟨bI,bZ,by simp[ec],alv ⟨pK,ch,qF,by decide,aa⟩,aa⟩⟩
 by_cases gQ:k=5
 ·obtain⟨d3,m,cB,ax,ch⟩:=dW b d2 2 ca (by omega);have pK:az .i64 (a+1):=⟨by omega,by omega⟩
  have qF:az .i64 (a+1+m):=⟨by omega,by omega⟩
  exact⟨d3,⟨k,a,(a+1+m).tmod 3⟩,cB,⟨hk,U,Int.tmod_nonneg _ (by omega),Int.tmod_lt_of_pos _ (by omega)⟩,akW ⟨bI,bZ,by simp[ec],by simp[gQ],akV ⟨pK,ch,qF,by decide,aa⟩,aa⟩⟩
 exact⟨d2,⟨k,a,0⟩,ca,⟨hk,U,by dsimp only;omega⟩,akX ⟨bI,bZ,by simp[ec],by simp[gQ],aa⟩⟩
theorem Wv(p:df):Flat [p.e]:=dG fun d aE=>by
 simp only[df.e,et,mX,or_false]at aE;rcases aE with rfl | rfl | rfl<;>exact⟨_,rfl⟩
theorem Q'(b:List Int)(m:Nat)(hm:m<=1000):∀(n i:Nat) (xs:List df) (c:dC),i+n=m+1->c.ok b->xs.length<=i->(∀p∈xs,Dc p)->
  ∃(ys:List df) (d:dC),d.ok b/\ys.length<=m+1/\(∀p∈ys,Dc p)/\c0 prog (ar f120 0) (Ao (b.map hd) m i (xs.map df.e) c.i c.h) (.exit 0) (J8 (b.map hd) (ys.map df.e) d.i d.h)
 | n,i,xs,c,pC,ah,ak,ag=>by
  obtain⟨d1,k,cn,hk,bI⟩:=dW b c ((m:Int)+1) ah (by omega);by_cases h:(i:Int)<k
  ·match n with
   | 0=>omega
   | n+1=>
    obtain⟨d2,p,ca,hp,bZ⟩:=amF b d1 cn;obtain⟨ys,d,o,ff,fa,l⟩:=Q' b m hm n (i+1) (xs++[p]) d2 (by omega) ca (by simp;omega) (fun z bd=>by
     rcases mW.1 bd with bd | bd
     ·exact ag z bd
     rw[List.mem_singleton]at bd;subst bd;exact hp)
    refine⟨ys,d,o,ff,fa,.more ?_ l⟩;rw[ha];exact akY ⟨⟨by omega,by omega⟩,bI,j3 h,bZ,by simp;omega,by simp;omega,Wv p,⟨by omega,by omega⟩,aa⟩
  exact⟨xs,d1,cn,by omega,ag,.last (cM 0) (akZ ⟨⟨by omega,by omega⟩,bI,ly h,aa⟩)⟩
theorem amG(b:List Int)(c:dC)(m:Nat)(hm:m<=1000)(ah:c.ok b):∃(d:dC) (ct:List df),d.ok b/\ct.length<=m+1/\(∀p∈ct,Dc p)/\bT prog 120 [.cur (c.e b) (d.e b),.ro (.one (I m))] (.vals [.one (.J 3 (ct.map df.e))]):=by
 obtain⟨ys,d,o,ff,fa,l⟩:=Q' b m hm (m+1) 0 [] c (by omega) ah (by simp) (by simp);exact⟨d,ys,o,ff,fa,ak0 ⟨l,aa⟩⟩
end Go.Proofs.YtdchjefneblpgaaGreat
namespace Go.Proofs.YtdchjefneblpgaaGreat
open Go.Sx Go.RowKit Go.Proofs.Tryz
theorem Kc{α:Type}{f:α->Nat}{k:Nat}:∀{xs:List α},(∀x∈xs,f x<=k)->(xs.map f).sum<=xs.length*k
 | [],_=>by simp
 | a::xs,h=>by
  have h1:=h a (by simp);have U:=Kc (f:=f) (k:=k) (xs:=xs) (fun x ag=>h x (by simp[ag]));simp only[l2,uo,dH,fo,Nat.one_mul];omega
theorem Kd{g:b1}{xs:List aA}:nG g xs=true<->eA g=true/\xs.length<=20/\xs.any sf=false:=by
 simp only[nG,cq,cK,g',and_assoc]
theorem amH{g:b1}{xs:List aA}(h:nG g xs=true):(iZ g xs).sz<=g.sz+1000:=by
 obtain⟨h1,U,_⟩:=Kd.1 h;have aT:=lm h1;obtain⟨n,Ce⟩:∃n:Nat,g.ay=n:=⟨g.ay.toNat,by omega⟩
 have a:=Kc (f:=aP.sz) (k:=92) (xs:=qN g xs n) (fun x ag=>by
  simp only[qN,k2]at ag;obtain⟨w,_,rfl⟩:=ag;have:=PF (g:=g) U (w:Nat);simp only[sg,aP.sz,b9,List.length_replicate];omega)
 have b:=Kc (f:=bt.sz) (k:=0) (xs:=List.replicate (n*n) (p2 g.cap)) (fun x ag=>by
  rw[List.eq_of_mem_replicate ag];simp[p2,bt.sz])
 have hm:n*n<=4*4:=Nat.mul_le_mul (by omega) (by omega);simp only[iZ,bb.sz,eZ,Ce,l0,List.length_replicate,b9,J']at a b ⊢;omega
theorem Ra(g:b1)(xs:List aA):fw (iZ g xs):=by
 intro l ak;have:=List.eq_of_mem_replicate ak;subst this;simp[p2]
end Go.Proofs.YtdchjefneblpgaaGreat
namespace Go.Proofs.YtdchjefneblpgaaGreat
open Go.Sx Go.RowKit Go.Proofs.Tryz
theorem lz.size{g:b1}(h:lz g):g.sz<=100:=by
 obtain⟨⟨k,a,b,c,v,hk,aj,aq,ah,bA,aT⟩,hw,hB⟩:=h;obtain⟨nodes,ay,cap⟩:=g;simp only at aT;subst aT;have e:(⟨oX k a b c v,ay,cap⟩:b1).sz=eZ Node.sz (oX k a b c v):=rfl;rw[e];have bh:v=0\/v=1\/v=2\/v=3\/v=4:=by omega
 rcases bh with rfl | rfl | rfl | rfl | rfl<;>simp[eZ,oX,xE,Node.sz]
theorem Input.Ws{r:aA}(h:Input r):sf r=false:=by
 obtain⟨h1,U,ax,aK,aV⟩:=h;have ok:fe r=true:=by
  simp only[fe,iM,f',ap,cq,cK,h1,U];omega
 simp[sf,ok,h1,U]
theorem amI{g:b1}{xs:List aA}(au:lz g)(ak:xs.length<=6)(ag:∀r∈xs,Input r):nG g xs=true:=
 Kd.2 ⟨au.ok,by omega,hr.2 fun r aD=>by simp[(ag r aD).Ws]⟩
end Go.Proofs.YtdchjefneblpgaaGreat
namespace Go.Proofs.YtdchjefneblpgaaGreat
open Go.Sx Go.RowKit Go.Proofs.Tryz
def Fair(r:aA):Prop:=(0<=r.op/\r.op<5)/\(0<=r.bx.bf/\r.bx.bf<4)/\(0<=r.bx.dS/\r.bx.dS<5)/\(0<=r.key/\r.key<12)/\(0<=r.val/\r.val<40)
theorem u4{n:Int}(h1:-9223372036854775808<=n)(U:n<=9223372036854775807):az .i64 n:=⟨h1,U⟩
theorem Fair.wf{r:aA}(h:Fair r):r.wf:=by
 obtain⟨h1,U,ax,aK,aV⟩:=h;exact⟨u4 (by omega) (by omega),⟨u4 (by omega) (by omega),u4 (by omega) (by omega)⟩,u4 (by omega) (by omega),u4 (by omega) (by omega)⟩
theorem Rb(b:List Int)(c:dC)(ah:c.ok b):∃(d:dC) (s:gr),d.ok b/\((0<=s.bf/\s.bf<4)/\(0<=s.dS/\s.dS<5))/\bT prog 325 [.cur (c.e b) (d.e b)] (.vals [.agg s.e]):=by
 obtain⟨d1,x,cn,h1,bI⟩:=dW b c 4 ah (by omega);obtain⟨d2,y,ca,U,bZ⟩:=dW b d1 5 cn (by omega);exact⟨d2,⟨x,y⟩,ca,⟨h1,U⟩,alN ⟨bI,bZ,aa⟩⟩
theorem Ap{n:Int}{xs:List Int}(h:n∈xs)(ag:(xs.all fun x=>decide (-9223372036854775808<=x)&&decide (x<=9223372036854775807))=true):az .i64 n:=by
 have:=fv.1 ag n h;simp only[cq,cK]at this;exact this
theorem amJ(b:List Int)(c:dC)(ah:c.ok b):∃(d:dC) (s:gr),d.ok b/\s.wf/\bT prog 272 [.cur (c.e b) (d.e b)] (.vals [.agg s.e]):=by
 obtain⟨d1,s,cn,⟨h1,U⟩,bI⟩:=Rb b c ah;obtain⟨d2,k,ca,ax,bZ⟩:=dW b d1 10 cn (by omega);have w1:az .i64 s.bf:=u4 (by omega) (by omega);have kA:az .i64 s.dS:=u4 (by omega) (by omega);by_cases bz:k=0
 ·obtain⟨d3,x,cB,aK,ch⟩:=ke b d2 [-1,3,4,9223372036854775807] ca (by simp);exact⟨d3,⟨x,s.dS⟩,cB,⟨Ap aK (by decide),kA⟩,alO ⟨bI,bZ,by simp[bz],ch,aa⟩⟩
 by_cases e1:k=1
 ·obtain⟨d3,x,cB,aK,ch⟩:=ke b d2 [-1,5,6,7,-9223372036854775808] ca (by simp);exact⟨d3,⟨s.bf,x⟩,cB,⟨w1,Ap aK (by decide)⟩,alP ⟨bI,bZ,by simp[bz],by simp[e1],ch,aa⟩⟩
 exact⟨d2,s,ca,⟨w1,kA⟩,alQ ⟨bI,bZ,by simp[bz],by simp[e1],aa⟩⟩
theorem Dd(b:List Int)(c:dC)(ah:c.ok b):∃(d:dC) (r:aA),d.ok b/\Fair r/\bT prog 271 [.cur (c.e b) (d.e b)] (.vals [.agg r.e]):=by
 obtain⟨d1,x,cn,h1,bI⟩:=dW b c 5 ah (by omega);obtain⟨d2,s,ca,⟨U,ax⟩,bZ⟩:=Rb b d1 cn;obtain⟨d3,k,cB,aK,ch⟩:=dW b d2 12 ca (by omega);obtain⟨d4,v,e6,aV,ei⟩:=dW b d3 40 cB (by omega);exact⟨d4,⟨x,s,k,v⟩,e6,⟨h1,U,ax,aK,aV⟩,alR ⟨bI,bZ,ch,ei,aa⟩⟩
theorem Rc(b:List Int)(c:dC)(ah:c.ok b):∃(d:dC) (r:aA),d.ok b/\r.wf/\bT prog 178 [.cur (c.e b) (d.e b)] (.vals [.agg r.e]):=by
 obtain⟨d1,r,cn,aD,bI⟩:=Dd b c ah;obtain⟨w1,kA,Lr,Ls⟩:=aD.wf;obtain⟨d2,k,ca,ax,bZ⟩:=dW b d1 12 cn (by omega);by_cases bz:k=0
 ·obtain⟨d3,x,cB,aK,ch⟩:=ke b d2 [-1,7,8] ca (by simp);exact⟨d3,⟨x,r.bx,r.key,r.val⟩,cB,⟨Ap aK (by decide),kA,Lr,Ls⟩,alS ⟨bI,bZ,by simp[bz],ch,aa⟩⟩
 by_cases e1:k=1
 ·obtain⟨d3,s,cB,aK,ch⟩:=amJ b d2 ca;exact⟨d3,⟨r.op,s,r.key,r.val⟩,cB,⟨w1,aK,Lr,Ls⟩,alT ⟨bI,bZ,by simp[bz],by simp[e1],ch,aa⟩⟩
 by_cases e2:k=2
 ·obtain⟨d3,x,cB,aK,ch⟩:=ke b d2 [-1,99,100,-9223372036854775808] ca (by simp);exact⟨d3,⟨r.op,r.bx,x,r.val⟩,cB,⟨w1,kA,Ap aK (by decide),Ls⟩,alU ⟨bI,bZ,by simp[bz],by simp[e1],by simp[e2],ch,aa⟩⟩
 by_cases cc:k=3
 ·obtain⟨d3,x,cB,aK,ch⟩:=ke b d2 [-1,999,1000,9223372036854775807] ca (by simp);exact⟨d3,⟨r.op,r.bx,r.key,x⟩,cB,⟨w1,kA,Lr,Ap aK (by decide)⟩,alV ⟨bI,bZ,by simp[bz],by simp[e1],by simp[e2],by simp[cc],ch,aa⟩⟩
 exact⟨d2,r,ca,aD.wf,alW ⟨bI,bZ,by simp[bz],by simp[e1],by simp[e2],by simp[cc],aa⟩⟩
theorem FH(r:aA):Flat [r.e]:=dG fun d aE=>by
 simp only[aA.e,et,mX,or_false]at aE;rcases aE with rfl | rfl | rfl | rfl | rfl<;>exact⟨_,rfl⟩
