import Derived.Test.YtdchjefneblpgaaGreatT5
import Derived.Test.YtdchjefneblpgaaGreatR35
import Derived.Test.YtdchjefneblpgaaGreatGD
import Derived.Test.YtdchjefneblpgaaGreatP72
import Derived.Test.YtdchjefneblpgaaGreatGY
set_option linter.unusedVariables false
set_option linter.unusedSimpArgs false
namespace Go.Proofs.YtdchjefneblpgaaGreat
open Go.Sx Go.RowKit Go.Proofs.Tryz
def hh(n:Int):List D:=[.v (.int .u8 n)]
structure dC where
 i:Int
 h:Int
def dC.e(b:List Int)(c:dC):List D:=[.J 1 (b.map hh),I c.i,I c.h]
def Bytes(b:List Int):Prop:=b.length<=8388608/\∀x∈b,0<=x/\x<=255
def dC.ok(b:List Int)(c:dC):Prop:=Bytes b/\0<=c.i/\c.i<=b.length
theorem ast{P:Program}{t:TypeId}{ds:List D}(hu:P.underlying t=some (.int .u8))(h:ja P t ds):∃n,ds=hh n/\0<=n/\n<=255:=by
 have U:∃n,ds=[.v (.int .u8 n)]/\(Lit.int .u8 n).wf=true:=by cases h<;>simp_all
 obtain⟨n,e,hw⟩:=U;refine⟨n,e,?_⟩;simp[Lit.wf]at hw;have ax:IntKind.u8.min=0:=rfl;rw[ax]at hw;exact hw
theorem ald:prog.cellsOf 5=1:=by kernel_rfl
theorem ale{ds:List D}(h:ja prog 22 ds):∃xs:List Int,ds=[.J 1 (xs.map hh)]/\(xs.length:Int)<=9223372036854775807/\∀a∈xs,(fun n=>0<=n/\n<=255) a:=
 akW hh (fun n=>0<=n/\n<=255) Tryz.underlying22 ald (fun ds h=>ast Tryz.underlying5 h) h
theorem alf{ci:cz}(h:Bb prog 22 ci):∃xs:List Int,ci=.one (.J 1 (xs.map hh))/\(xs.length:Int)<=9223372036854775807/\∀a∈xs,(fun n=>0<=n/\n<=255) a:=by
 cases ci with
 | agg ds=>have:=h.2;simp[qT,Tryz.underlying22]at this
 | one d=>
  obtain⟨x,e,ak⟩:=ale h.1;grind
theorem PK{P:Program}(a:Int)(n:Nat):∃m:Int,∀t x y,k4 P .shr t x y (.int .i64 a) (.int .u64 (n:Int)) (.int .i64 m):=⟨_,fun _ _ _=>akj⟩
theorem alg{P:Program}(a b:Int):∃m:Int,∀t x y,k4 P .xor t x y (.int .i64 a) (.int .i64 b) (.int .i64 m):=⟨_,fun _ _ _=>akk⟩
theorem Ii{P:Program}(a:Int)(k:Nat)(hk:k<2 ^ 62):∃m:Int,(0<=m/\m<=k)/\∀t x y,k4 P .and t x y (.int .i64 a) (.int .i64 (k:Int)) (.int .i64 m):=⟨_,akm a k hk,fun _ _ _=>akl⟩
theorem PL(b:List Int)(aw:Bytes b):∀(n i:Nat) (h:Int),i+n=b.length->0<=h/\h<=1073741823->∃q4,cV prog (ao f117 0) (wY (b.map hh) i h) (.exit 0) (CN (b.map hh) q4)
 | 0,i,h,hi,bH=>⟨h,.last (cH 0) (akp ⟨by grind,aa⟩)⟩
 | n+1,i,h,hi,bH=>by
  have ap:=aw.1;obtain⟨x,ak⟩:=cS (xs:=b) (i:=i) (by omega);have aw:=aw.2 x (eA ak);by_cases aJ:(i:Int)<4000
  ·obtain⟨m,hm,r⟩:=Ii (P:=prog) (h*131+x+7) 1073741823 (by decide);obtain⟨q4,l⟩:=PL b ‹Bytes b› n (i+1) m (by omega) hm;exact⟨q4,.more (akn ⟨b6 (by omega),kh aJ,⟨by omega,by omega⟩,bw,bE (by omega),bA hh ak,⟨by omega,by omega⟩,⟨by omega,by omega⟩,⟨by omega,by omega⟩,r _ _ _,⟨by omega,by omega⟩,aa⟩) l⟩
  exact⟨h,.last (cH 0) (ako ⟨b6 (by omega),mu aJ,aa⟩)⟩
theorem alh(b:List Int)(aw:Bytes b):∃c:dC,c.ok b/\bT prog 117 [.ro (.one (.J 1 (b.map hh)))] (.im [some 0,none,none] (c.e b)):=by
 have ap:=aw.1;obtain⟨q4,l⟩:=PL b aw b.length 0 (94701+(↑(b.map hh).length:Int)) (by omega) ⟨by omega,by simp;omega⟩;exact⟨⟨0,q4⟩,⟨aw,by grind,by grind⟩,akq ⟨⟨by omega,by simp;omega⟩,l,aa⟩⟩
theorem CP(b:List Int)(c:dC)(al:c.ok b):∃(d:dC) (n:Int),d.ok b/\(0<=n/\n<=255)/\bT prog 253 [.cur (c.e b) (d.e b)] (.vals [.one (I n)]):=by
 obtain⟨⟨h1,U⟩,ax,aJ⟩:=al;obtain⟨n9,cf⟩:=PK (P:=prog) (IntKind.i64.wrap (IntKind.i64.wrap (c.h*6364136223846793005)+1442695040888963407)) 33;obtain⟨kX,ed⟩:=PK (P:=prog) (IntKind.i64.wrap (IntKind.i64.wrap (c.h*6364136223846793005)+1442695040888963407)) 45;obtain⟨mX,jn⟩:=alg (P:=prog) n9 kX;obtain⟨n6,m6,nx⟩:=Ii (P:=prog) mX 255 (by decide);by_cases hi:c.i<b.length
 ·obtain⟨x,ak⟩:=cS (xs:=b) (i:=c.i.toNat) (by omega);have aw:=U x (eA ak);obtain⟨n8,m8,ar6⟩:=Ii (P:=prog) (IntKind.i64.wrap (n6+IntKind.i64.wrap x)) 255 (by decide);exact⟨⟨c.i+1,IntKind.i64.wrap (IntKind.i64.wrap (c.h*6364136223846793005)+1442695040888963407)⟩,n8,⟨⟨h1,U⟩,by grind,by grind⟩,m8,akr ⟨cf _ _ _,ed _ _ _,jn _ _ _,nx _ _ _,by grind,ax,by grind,by rw[dr,ak];rfl,ar6 _ _ _,⟨by omega,by omega⟩,aa⟩⟩
 exact⟨⟨c.i,IntKind.i64.wrap (IntKind.i64.wrap (c.h*6364136223846793005)+1442695040888963407)⟩,n6,⟨⟨h1,U⟩,ax,aJ⟩,m6,aks ⟨cf _ _ _,ed _ _ _,jn _ _ _,nx _ _ _,by grind,aa⟩⟩
theorem dO(b:List Int)(c:dC)(k:Int)(al:c.ok b)(hk:1<=k/\k<=1000000):∃(d:dC) (n:Int),d.ok b/\(0<=n/\n<k)/\bT prog 138 [.cur (c.e b) (d.e b),.ro (.one (I k))] (.vals [.one (I n)]):=by
 have md:∀m:Int,0<=m->0<=m.tmod k/\m.tmod k<k:=fun m hm=>⟨Int.tmod_nonneg _ hm,Int.tmod_lt_of_pos m (by omega)⟩
 obtain⟨d1,kt,cy,gC,bK⟩:=CP b c al;by_cases h:k<=256
 ·exact⟨d1,_,cy,md kt gC.1,akt ⟨mu (by omega),kh h,bK,by omega,aa⟩⟩
 obtain⟨d2,lq,ca,fQ,b2⟩:=CP b d1 cy;obtain⟨d3,n9,cC,xM,cf⟩:=CP b d2 ca;obtain⟨d4,kX,ff,E2,ed⟩:=CP b d3 cC;exact⟨d4,_,ff,md _ (by omega),aku ⟨mu (by omega),mu h,bK,b2,cf,ed,⟨by omega,by omega⟩,⟨by omega,by omega⟩,⟨by omega,by omega⟩,⟨by omega,by omega⟩,⟨by omega,by omega⟩,⟨by omega,by omega⟩,by omega,aa⟩⟩
theorem CQ(b:List Int)(c:dC)(k:Int)(al:c.ok b)(hk:1<=k/\k<=1000000):∃(d:dC) (x:Bool),d.ok b/\bT prog 136 [.cur (c.e b) (d.e b),.ro (.one (I k))] (.vals [.one (B x)]):=by
 obtain⟨d,n,o,_,r⟩:=dO b c k al hk;exact⟨d,_,o,akv ⟨r,aa⟩⟩
theorem kx(b:List Int)(c:dC)(xs:List Int)(al:c.ok b)(hk:1<=xs.length/\xs.length<=1000):∃(d:dC) (n:Int),d.ok b/\n∈xs/\bT prog 140 [.cur (c.e b) (d.e b),.ro (.one (.J 1 (xs.map a6)))] (.vals [.one (I n)]):=by
 obtain⟨d,n,o,aw,r⟩:=dO b c (xs.length:Int) al (by omega);obtain⟨x,ak⟩:=cS (xs:=xs) (i:=n.toNat) (by omega);refine⟨d,x,o,eA ak,akw ⟨?_,aw.1,by grind,by rw[dr,ak];rfl,aa⟩⟩;rw[cm];exact r
end Go.Proofs.YtdchjefneblpgaaGreat
namespace Go.Proofs.YtdchjefneblpgaaGreat
open Go.Sx Go.RowKit Go.Proofs.Tryz
def Input(r:aB):Prop:=r.op=0/\r.bp.dT=0/\(0<=r.bp.bc/\r.bp.bc<=2)/\(0<=r.key/\r.key<12)/\(0<=r.val/\r.val<40)
theorem PM(b:List Int):∀(n i:Nat) (e:Int) (xs:List aB) (c:dC),i+n=5->c.ok b->(0<=e/\e<=2)->xs.length<=i->(∀r∈xs,Input r)->
  ∃(ys:List aB) (d:dC),d.ok b/\ys.length<=5/\(∀r∈ys,Input r)/\cV prog (ao f119 0) (y0 (b.map hh) i e (xs.map aB.e) c.i c.h) (.exit 0) (Ia (b.map hh) (ys.map aB.e) d.i d.h)
 | n,i,e,xs,c,mM,al,he,ap,ak=>by
  obtain⟨d1,m,cy,aw,bK⟩:=dO b c 6 al (by omega);by_cases h:(i:Int)<m
  ·match n with
   | 0=>omega
   | n+1=>
    obtain⟨d2,a,ca,ah,b2⟩:=dO b d1 2 cy (by omega);obtain⟨d3,k,cC,hk,cf⟩:=dO b d2 12 ca (by omega);obtain⟨d4,v,ff,bz,ed⟩:=dO b d3 40 cC (by omega);have nI:=CT (e+a) 0 2;have MO:0<=hq (e+a) 0 2/\hq (e+a) 0 2<=2:=by
     unfold hq;simp only[show ¬(2:Int)<0 by omega,lK];split<;>(try split)<;>omega
    obtain⟨ys,d,o,fa,e0,l⟩:=PM b n (i+1) (hq (e+a) 0 2) (xs++[⟨0,⟨hq (e+a) 0 2,0⟩,k,v⟩]) d4 (by omega) ff MO (by simp;omega) (fun r aH=>by
     rcases mo.1 aH with aH | aH
     ·exact ak r aH
     rw[List.mem_singleton]at aH;subst aH;exact⟨rfl,rfl,MO,hk,bz⟩)
    refine⟨ys,d,o,fa,e0,.more ?_ l⟩;rw[hy];exact alU ⟨bK,kh h,b2,⟨by omega,by omega⟩,nI,cf,ed,by simp;omega,by simp;omega,fV (fun d aG=>by simp only[ep,nG,or_false]at aG;rcases aG with rfl | rfl | rfl | rfl | rfl<;>exact⟨_,rfl⟩),⟨by omega,by omega⟩,aa⟩
  exact⟨xs,d1,cy,by omega,ak,.last (cH 0) (alV ⟨bK,mu h,aa⟩)⟩
theorem PN(b:List Int)(c:dC)(al:c.ok b):∃(d:dC) (xs:List aB),d.ok b/\xs.length<=5/\(∀r∈xs,Input r)/\bT prog 119 [.cur (c.e b) (d.e b)] (.vals [.one (.J 5 (xs.map aB.e))]):=by
 obtain⟨ys,d,o,fa,e0,l⟩:=PM b 5 0 0 [] c rfl al (by omega) (by simp) (by simp);exact⟨d,ys,o,fa,e0,alW ⟨l,aa⟩⟩
end Go.Proofs.YtdchjefneblpgaaGreat
namespace Go.Proofs.YtdchjefneblpgaaGreat
open Go.Sx Go.RowKit Go.Proofs.Tryz
def rR(r:aB):Bool:=!eR r||r.op != 0||r.bp.dT != 0
def Hn(g:bR)(xs:List aB)(w e:Int):List aB:=xs.filter fun r=>r.bp.bc==e&&jG r.key g.ay==w
def sK(g:bR)(xs:List aB)(w:Int)(n:Nat):List aB:=(List.range n).flatMap fun e=>Hn g xs w (e:Nat)
def own(g:bR)(xs:List aB)(w:Int):List aB:=sK g xs w 4
def rS(xs:List aB):aR:=⟨[],[],xs,[],List.replicate 4 0,List.replicate 4 false,List.replicate 4 false,[]⟩
def pz(cap:Int):bu:=⟨hq cap 1 4,[],hq cap 1 4,0,0,0⟩
def DY:bV:=⟨false,0,0,false,false⟩
def qg(g:bR)(xs:List aB)(n:Nat):List aR:=(List.range n).map fun w=>rS (own g xs (w:Nat))
def ky(g:bR)(xs:List aB):bb:=⟨g,qg g xs g.ay.toNat,List.replicate (g.ay.toNat*g.ay.toNat) (pz g.cap),List.replicate 4 DY,[]⟩
def PO:bb:=⟨⟨[],0,0⟩,[],[],[],[]⟩
def mZ(g:bR)(xs:List aB):Bool:=dY g&&decide (xs.length<=20)&&!xs.any rR
def wZ(g:bR)(xs:List aB):bb×Bool:=if mZ g xs then (ky g xs,true) else (PO,false)
theorem ali(g:bR)(xs:List aB)(w:Int)(n:Nat):sK g xs w (n+1)=sK g xs w n++Hn g xs w (n:Nat):=by
 simp[sK,List.range_succ]
theorem PQ(g:bR)(xs:List aB)(w:Int)(n:Nat):(sK g xs w n).length<=n*xs.length:=by
 have h:=w4 (fun e:Nat=>Hn g xs w (e:Nat)) xs.length (fun _=>qK _ _) (List.range n);rwa[xw]at h
variable{xs:List aB}
theorem PR{g:bR}(ap:xs.length<=20)(w:Int):(own g xs w).length<=80:=by
 have:=PQ g xs w 4;unfold own;omega
theorem alj{g:bR}(ap:xs.length<=20)(w:Int){n:Nat}(a8:n<4):(sK g xs w n).length<=60:=by
 have:=PQ g xs w n;have:n*xs.length<=3*20:=Nat.mul_le_mul (by omega) ap;omega
theorem alk(g:bR)(xs:List aB)(n:Nat):qg g xs (n+1)=qg g xs n++[rS (own g xs (n:Nat))]:=by
 simp[qg,List.range_succ]
theorem Ij(g:bR)(xs:List aB)(n:Nat):(qg g xs n).length=n:=by simp[qg]
theorem alm{α:Type}{f:α->List D}{x:α}{m:Nat}:(List.replicate m x).map f++[f x]=(List.replicate (m+1) x).map f:=by
 rw[List.replicate_succ',hy];rfl
theorem PS(cap:Int):ar 126 [.one (I cap)] [.agg (pz cap).e]:=afh ⟨CT cap 1 4,aa⟩
theorem Ph(xs:List aB)(ap:xs.length<=1000):ar 124 [.one (.J 5 (xs.map aB.e))] [.agg (rS xs).e]:=
 afi ⟨nl (by simp;omega),jC (by simp;omega),dA _ aB.flat _,by omega,by omega,by decide,by omega,by omega,by omega,by decide,by omega,by omega,by omega,by decide,by omega,aa⟩
theorem aln(g:bR)(xs:List aB)(w:Int)(a8:1<=g.ay/\g.ay<=4)(ap:xs.length<=20):ar 125 [.agg g.e,.one (.J 5 (xs.map aB.e)),.one (I w)] [.one (.J 5 ((own g xs w).map aB.e))]:=by
 have kW:=fun (e:Nat) (he:e<4) (acc:List aB) (ah:acc.length<=100)=>eN (P:=prog) (c:=(ao f125 1)) (cH 2) xs.length (fun i:Nat=>r0 (g.nodes.map Node.e) g.ay g.cap (xs.map aB.e) w e i ((acc++(xs.take i).filter fun r=>r.bp.bc==(e:Int)&&jG r.key g.ay==w).map aB.e)) (fun i hi=>by
  obtain⟨r,aH⟩:=cS hi;have b0:((xs.take i).filter fun r=>r.bp.bc==(e:Int)&&jG r.key g.ay==w).length<=20:=by
   have:=qK (fun r:aB=>r.bp.bc==(e:Int)&&jG r.key g.ay==w) (xs.take i);have:=Kr i xs;omega
  rw[yX _ aH];generalize (xs.take i).filter (fun r=>r.bp.bc==(e:Int)&&jG r.key g.ay==w)=ew at*;have uC:=QO r.key g.ay (by omega);cases h1:(r.bp.bc==(e:Int)) with
  | false=>
   rw[Bool.false_and,bG (by decide),k'];exact afc ⟨b6 hi,bw,bE hi,bA aB.e aH,h1,dc hi (by omega),aa⟩
  | true=>
   cases U:(jG r.key g.ay==w) with
   | false=>
    rw[Bool.and_false,bG (by decide),k'];exact afb ⟨b6 hi,bw,bE hi,bA aB.e aH,h1,bw,bE hi,bA aB.e aH,uC,U,dc hi (by omega),aa⟩
   | true=>
    rw[tJ,bM rfl,<-tG,Ko];exact afa ⟨b6 hi,bw,bE hi,bA aB.e aH,h1,bw,bE hi,bA aB.e aH,uC,U,bw,bE hi,bA aB.e aH,by simp;omega,by simp;omega,fV (aB.flat r),dc hi (by omega),aa⟩) (afd ⟨dz,aa⟩)
 have fo:=eN (P:=prog) (c:=(ao f125 0)) (cH 0) 4 (fun n:Nat=>zp (g.nodes.map Node.e) g.ay g.cap (xs.map aB.e) w n ((sK g xs w n).map aB.e)) (fun n a8=>by
  have:=kW n a8 (sK g xs w n) (by have:=alj (g:=g) ap w a8;omega);rw[k8,List.take_zero,List.filter_nil,k']at this;rw[ali];exact afe ⟨dM (by omega),this,⟨by omega,by omega⟩,aa⟩) (aff ⟨eL (by omega),aa⟩)
 exact afg ⟨fo,aa⟩
theorem Ik{g:bR}(h:mZ g xs=false):wZ g xs=(PO,false):=by unfold wZ;rw[h];rfl
theorem Il{g:bR}(h:mZ g xs=true):wZ g xs=(ky g xs,true):=by unfold wZ;rw[h];rfl
theorem alo(g:bR)(xs:List aB)(ap:xs.length<=20):
  (xs.any rR=false/\cV prog (ao f14 0) (pF (xs.map aB.e) 0 0 0 (g.nodes.map Node.e) g.ay g.cap) (.exit 0) (Jk (xs.map aB.e) 0 0 (g.nodes.map Node.e) g.ay g.cap))\/
  (xs.any rR=true/\cV prog (ao f14 0) (pF (xs.map aB.e) 0 0 0 (g.nodes.map Node.e) g.ay g.cap) .ret (wK false 0 0)):=by
 have l:=gy (P:=prog) (c:=(ao f14 0)) xs rR (fun i=>pF (xs.map aB.e) i 0 0 (g.nodes.map Node.e) g.ay g.cap) (e1:=.ret) (e2:=.exit 0) (X:=fun _ _=>wK false 0 0) e7 (cH 0)
  (fun i a ah h=>by
   simp only[rR,gn]at h;have hi:=a1 ah;exact ae2 ⟨b6 hi,bw,bE hi,bA aB.e ah,rT a,h.1.1,bw,bE hi,bA aB.e ah,h.1.2,bw,bE hi,bA aB.e ah,h.2,dc hi (by omega),aa⟩)
  (fun i a ah h=>by
   have hi:=a1 ah;have gK:=rT a;unfold rR at h;cases h1:(!eR a) with
   | true=>exact aeZ ⟨b6 hi,bw,bE hi,bA aB.e ah,gK,h1,aa⟩
   | false=>
    cases U:(a.op != 0) with
    | true=>exact ae0 ⟨b6 hi,bw,bE hi,bA aB.e ah,gK,h1,bw,bE hi,bA aB.e ah,U,aa⟩
    | false=>
     rw[h1,U,jr,jr]at h;exact ae1 ⟨b6 hi,bw,bE hi,bA aB.e ah,gK,h1,bw,bE hi,bA aB.e ah,U,bw,bE hi,bA aB.e ah,h,aa⟩)
  (ae3 ⟨dz,aa⟩)
 rcases l with⟨_,_,h1,U⟩ | ⟨i,a,_,_,_,_,h1,U⟩
 ·exact .inl ⟨h1,U⟩
 exact .inr ⟨h1,U⟩
theorem alp(g:bR)(xs:List aB)(a8:1<=g.ay/\g.ay<=4)(ap:xs.length<=20):
  cV prog (ao f14 1) (wL (xs.map aB.e) 0 (g.nodes.map Node.e) g.ay g.cap [] [] ((List.replicate 4 DY).map bV.e) 0 0 (g.nodes.map Node.e) g.ay g.cap) (.exit 2)
   (Jl (g.nodes.map Node.e) g.ay g.cap ((qg g xs g.ay.toNat).map aR.e) ((List.replicate (g.ay.toNat*g.ay.toNat) (pz g.cap)).map bu.e) ((List.replicate 4 DY).map bV.e) 0 0):=by
 obtain⟨n,BN⟩:∃n:Nat,g.ay=n:=⟨g.ay.toNat,by omega⟩
 have BM:n<=4:=by omega
 have yJ:=fun (w:Nat) (m:Nat) (W T:List (List D)) (hm:m<=16)=>eN (P:=prog) (c:=(ao f14 2)) (cH 4) n (fun k:Nat=>zo (xs.map aB.e) w k (g.nodes.map Node.e) g.ay g.cap W ((List.replicate (m+k) (pz g.cap)).map bu.e) T 0 0 (g.nodes.map Node.e) g.ay g.cap) (fun k hk=>by
  rw[<-EP,<-alm];exact ae5 ⟨dM (by omega),PS g.cap,by simp;omega,by simp;omega,⟨by omega,by omega⟩,aa⟩) (ae6 ⟨eL (by omega),aa⟩)
 have kW:=eN (P:=prog) (c:=(ao f14 1)) (cH 2) n (fun w:Nat=>wL (xs.map aB.e) w (g.nodes.map Node.e) g.ay g.cap ((qg g xs w).map aR.e) ((List.replicate (w*n) (pz g.cap)).map bu.e) ((List.replicate 4 DY).map bV.e) 0 0 (g.nodes.map Node.e) g.ay g.cap) (fun w hw=>by
  have sF:=Ij g xs w;have hm:w*n<=3*4:=Nat.mul_le_mul (by omega) BM;rw[alk,Ko,show (w+1)*n=w*n+n by rw[gB,Nat.one_mul]];exact ae7 ⟨dM (by omega),aln g xs w a8 ap,Ph _ (by have:=PR (g:=g) ap (w:Nat);omega),by simp[sF];omega,by simp[sF];omega,yJ w (w*n) _ _ (by omega),⟨by omega,by omega⟩,aa⟩) (ae8 ⟨eL (by omega),aa⟩)
 rw[show ((0:Nat)*n)=0 by omega]at kW;rw[BN,pP];rw[BN]at kW;exact kW
theorem Pj(g:bR)(xs:List aB)(av:g.sz<=8388608):ar 14 [.agg g.e,.one (.J 5 (xs.map aB.e))] [.agg (wZ g xs).1.e,.one (B (wZ g xs).2)]:=by
 have vJ:=w7 g av;cases h1:dY g with
 | false=>
  rw[h1]at vJ;rw[Ik (by unfold mZ;rw[h1];rfl)];exact aeX ⟨vJ,rfl,aa⟩
 | true=>
 rw[h1]at vJ;by_cases ap:xs.length<=20
 case neg=>
  rw[Ik (by unfold mZ;rw[mu ap,Bool.and_false];rfl)];exact aeY ⟨vJ,rfl,dM (by simp;omega),aa⟩
 rcases alo g xs ap with⟨U,l⟩ | ⟨U,l⟩
 ·rw[Il (by unfold mZ;rw[h1,U,kh ap];rfl)];exact ae9 ⟨vJ,rfl,eL (by simp;omega),l,RM g av,by omega,by omega,by decide,by omega,alp g xs (nt h1) ap,aa⟩
 rw[Ik (by unfold mZ;rw[U];simp)];exact ae4 ⟨vJ,rfl,eL (by simp;omega),l,aa⟩
end Go.Proofs.YtdchjefneblpgaaGreat
namespace Go.Proofs.YtdchjefneblpgaaGreat
open Go.Sx Go.RowKit Go.Proofs.Tryz
def w2(k a b:Int):List Node:=[⟨1,0,0,[1]⟩,⟨k,0,0,[2,5]⟩,⟨4,1+a,0,[3]⟩,⟨2,b,0,[4]⟩,⟨7,0,0,[1]⟩,⟨8,0,0,[]⟩]
def oh(k a b c:Int):Nat->List Node
 | 0=>(w2 k a b).set 3 ⟨3,1+c,0,[4]⟩
 | 1=>(w2 k a b).set 4 ⟨8,0,0,[]⟩
 | 2=>(w2 k a b).set 2 ⟨4,1+a,0,[3,4]⟩
 | 3=>(w2 k a b++[(⟨8,0,0,[]⟩:Node)]).set 0 ⟨1,0,0,[1,6]⟩
 | _=>w2 k a b
structure lb (g:bR):Prop where
 nodes:∃(k a b c:Int) (v:Nat),(k=5\/k=6)/\(0<=a/\a<3)/\(0<=b/\b<4)/\(0<=c/\c<3)/\v<=4/\g.nodes=oh k a b c v
 ay:1<=g.ay/\g.ay<=3
 cap:1<=g.cap/\g.cap<=3
theorem lb.ok{g:bR}(h:lb g):dY g=true:=by
 obtain⟨⟨k,a,b,c,v,hk,ah,aw,al,bz,a8⟩,hw,fS⟩:=h;obtain⟨nodes,ay,cap⟩:=g;simp only at a8 hw fS;have atl:a=0\/a=1\/a=2:=by omega
 have atm:b=0\/b=1\/b=2\/b=3:=by omega
 have atn:c=0\/c=1\/c=2:=by omega
 have bh:v=0\/v=1\/v=2\/v=3\/v=4:=by omega
 have atq:ay=1\/ay=2\/ay=3:=by omega
 have cB:cap=1\/cap=2\/cap=3:=by omega
 have key:∀k∈[(5:Int),6],∀a∈[(0:Int),1,2],∀b∈[(0:Int),1,2,3],∀c∈[(0:Int),1,2],∀v∈[0,1,2,3,4],(!(anyI (iw ⟨oh k a b c v,1,1⟩) 0 (oh k a b c v))&&decide ((oh k a b c v).length<=7)&&decide (1<=(oh k a b c v).length))=true:=by decide +kernel
 have:=key k (by grind) a (by grind) b (by grind) c (by grind) v (by rcases bh with h | h | h | h | h<;>simp[h]);simp only[cF,cW]at this;obtain⟨⟨h1,U⟩,ax⟩:=this;subst a8;have Xd:iw ⟨oh k a b c v,ay,cap⟩=iw ⟨oh k a b c v,1,1⟩:=rfl;unfold dY;simp only[cF];rw[Xd];refine⟨⟨⟨?_,?_⟩,?_⟩,h1⟩
 ·simp only[aq,cF,cW];omega
 ·simp only[aq,cF,cW];omega
 simp only[aq,cF,cW];omega
theorem Pk(b:List Int)(c:dC)(al:c.ok b):∃(d:dC) (g:bR),d.ok b/\lb g/\bT prog 118 [.cur (c.e b) (d.e b)] (.vals [.agg g.e]):=by
 obtain⟨d1,kt,cy,h1,bK⟩:=dO b c 3 al (by omega);obtain⟨d2,lq,ca,U,b2⟩:=dO b d1 3 cy (by omega);obtain⟨d3,x,cC,cf⟩:=CQ b d2 3 ca (by omega);obtain⟨d4,kX,ff,aJ,ed⟩:=dO b d3 3 cC (by omega);obtain⟨d5,mX,rD,aY,jn⟩:=dO b d4 4 ff (by omega);obtain⟨d6,n6,X5,bx,nx⟩:=dO b d5 3 rD (by omega);obtain⟨d7,n7,X6,bN,qD⟩:=dO b d6 6 X5 (by omega);have i1:aI .i64 (1+kt):=⟨by omega,by omega⟩
 have i2:aI .i64 (1+lq):=⟨by omega,by omega⟩
 have i4:aI .i64 (1+kX):=⟨by omega,by omega⟩
 have i6:aI .i64 (1+n6):=⟨by omega,by omega⟩
 have fin:∀(k:Int) (v:Nat) {ds:List (List D)},(k=5\/k=6)->v<=4->lc ds ((oh k kX mX n6 v).map Node.e)->bT prog 118 [.cur (c.e b) (d7.e b)] (.vals [.agg [.J 4 ds,I (1+kt),I (1+lq)]])->
   ∃(d:dC) (g:bR),d.ok b/\lb g/\bT prog 118 [.cur (c.e b) (d.e b)] (.vals [.agg g.e]):=by
  intro k v ds hk bz b0 aH;exact⟨d7,⟨oh k kX mX n6 v,1+kt,1+lq⟩,X6,⟨⟨k,kX,mX,n6,v,hk,aJ,aY,bx,bz,rfl⟩,by grind,by grind⟩,
   aH.fit (.cons (.agg (.cons (.J 4 b0) (jt.refl _))) .nil)⟩
 have f1:∀d,Fit d d:=.refl;by_cases bB:n7=0
 ·cases x
  ·exact fin 5 0 (.inl rfl) (by omega) (by repeat (first | exact .refl _ | constructor)) (alE ⟨bK,i1,b2,i2,cf,rfl,ed,i4,jn,nx,i6,qD,by simp[bB],by omega,by simp,rfl,aa⟩)
  exact fin 6 0 (.inr rfl) (by omega) (by repeat (first | exact .refl _ | constructor)) (alz ⟨bK,i1,b2,i2,cf,rfl,ed,i4,jn,nx,i6,qD,by simp[bB],by omega,by simp,rfl,aa⟩)
 by_cases e1:n7=1
 ·cases x
  ·exact fin 5 1 (.inl rfl) (by omega) (by repeat (first | exact .refl _ | constructor)) (alF ⟨bK,i1,b2,i2,cf,rfl,ed,i4,jn,nx,i6,qD,by simp[bB],by simp[e1],by omega,by simp,rfl,aa⟩)
  exact fin 6 1 (.inr rfl) (by omega) (by repeat (first | exact .refl _ | constructor)) (alA ⟨bK,i1,b2,i2,cf,rfl,ed,i4,jn,nx,i6,qD,by simp[bB],by simp[e1],by omega,by simp,rfl,aa⟩)
 by_cases e2:n7=2
 ·cases x
  ·exact fin 5 2 (.inl rfl) (by omega) (by repeat (first | exact .refl _ | constructor)) (alG ⟨bK,i1,b2,i2,cf,rfl,ed,i4,jn,nx,i6,qD,by simp[bB],by simp[e1],by simp[e2],by omega,by simp,rfl,aa⟩)
  exact fin 6 2 (.inr rfl) (by omega) (by repeat (first | exact .refl _ | constructor)) (alB ⟨bK,i1,b2,i2,cf,rfl,ed,i4,jn,nx,i6,qD,by simp[bB],by simp[e1],by simp[e2],by omega,by simp,rfl,aa⟩)
 by_cases cb:n7=3
 ·cases x
  ·exact fin 5 3 (.inl rfl) (by omega) (by repeat (first | exact .refl _ | constructor)) (alH ⟨bK,i1,b2,i2,cf,rfl,ed,i4,jn,nx,i6,qD,by simp[bB],by simp[e1],by simp[e2],by simp[cb],by simp,by simp,by omega,by simp,rfl,aa⟩)
  exact fin 6 3 (.inr rfl) (by omega) (by repeat (first | exact .refl _ | constructor)) (alC ⟨bK,i1,b2,i2,cf,rfl,ed,i4,jn,nx,i6,qD,by simp[bB],by simp[e1],by simp[e2],by simp[cb],by simp,by simp,by omega,by simp,rfl,aa⟩)
 cases x
 ·exact fin 5 4 (.inl rfl) (by omega) (by repeat (first | exact .refl _ | constructor)) (alI ⟨bK,i1,b2,i2,cf,rfl,ed,i4,jn,nx,i6,qD,by simp[bB],by simp[e1],by simp[e2],by simp[cb],aa⟩)
 exact fin 6 4 (.inr rfl) (by omega) (by repeat (first | exact .refl _ | constructor)) (alD ⟨bK,i1,b2,i2,cf,rfl,ed,i4,jn,nx,i6,qD,by simp[bB],by simp[e1],by simp[e2],by simp[cb],aa⟩)
def CR(p:c9):Prop:=(1<=p.kind/\p.kind<=7)/\(0<=p.a/\p.a<3)/\(0<=p.b/\p.b<3)
theorem alq(b:List Int)(c:dC)(al:c.ok b):∃(d:dC) (p:c9),d.ok b/\CR p/\bT prog 242 [.cur (c.e b) (d.e b)] (.vals [.agg p.e]):=by
 obtain⟨d1,k,cy,h1,bK⟩:=kx b c [1,1,1,2,3,3,3,4,4,5,6,6,7] al (by simp);obtain⟨d2,a,ca,U,b2⟩:=dO b d1 3 cy (by omega);have hk:1<=k/\k<=7:=by
  simp only[ep,nG,or_false]at h1;omega
 by_cases d':k=4
 ·obtain⟨d3,m,cC,ax,cf⟩:=dO b d2 2 ca (by omega);have wj:aI .i64 (a+1):=⟨by omega,by omega⟩
  have ux:aI .i64 (a+1+m):=⟨by omega,by omega⟩
  exact⟨d3,⟨k,a,(a+1+m).tmod 3⟩,cC,⟨hk,U,Int.tmod_nonneg _ (by omega),Int.tmod_lt_of_pos _ (by omega)⟩,alY ⟨bK,b2,by simp[d'],alX ⟨wj,cf,ux,by decide,aa⟩,aa⟩⟩
 by_cases gY:k=5
 ·obtain⟨d3,m,cC,ax,cf⟩:=dO b d2 2 ca (by omega);have wj:aI .i64 (a+1):=⟨by omega,by omega⟩
  have ux:aI .i64 (a+1+m):=⟨by omega,by omega⟩
  exact⟨d3,⟨k,a,(a+1+m).tmod 3⟩,cC,⟨hk,U,Int.tmod_nonneg _ (by omega),Int.tmod_lt_of_pos _ (by omega)⟩,ak8 ⟨bK,b2,by simp[d'],by simp[gY],ak7 ⟨wj,cf,ux,by decide,aa⟩,aa⟩⟩
 exact⟨d2,⟨k,a,0⟩,ca,⟨hk,U,by grind⟩,ak9 ⟨bK,b2,by simp[d'],by simp[gY],aa⟩⟩
theorem VV(p:c9):Flat [p.e]:=fV fun d aG=>by
 simp only[c9.e,ep,nG,or_false]at aG;grind
theorem Pl(b:List Int)(m:Nat)(hm:m<=1000):∀(n i:Nat) (xs:List c9) (c:dC),i+n=m+1->c.ok b->xs.length<=i->(∀p∈xs,CR p)->
  ∃(ys:List c9) (d:dC),d.ok b/\ys.length<=m+1/\(∀p∈ys,CR p)/\cV prog (ao f120 0) (y1 (b.map hh) m i (xs.map c9.e) c.i c.h) (.exit 0) (Ih (b.map hh) (ys.map c9.e) d.i d.h)
 | n,i,xs,c,mM,al,ap,ak=>by
  obtain⟨d1,k,cy,hk,bK⟩:=dO b c ((m:Int)+1) al (by omega);by_cases h:(i:Int)<k
  ·match n with
   | 0=>omega
   | n+1=>
    obtain⟨d2,p,ca,hp,b2⟩:=alq b d1 cy;obtain⟨ys,d,o,fa,e0,l⟩:=Pl b m hm n (i+1) (xs++[p]) d2 (by omega) ca (by simp;omega) (fun z bl=>by
     grind)
    refine⟨ys,d,o,fa,e0,.more ?_ l⟩;rw[hy];exact ala ⟨⟨by omega,by omega⟩,bK,kh h,b2,by simp;omega,by simp;omega,VV p,⟨by omega,by omega⟩,aa⟩
  exact⟨xs,d1,cy,by omega,ak,.last (cH 0) (alb ⟨⟨by omega,by omega⟩,bK,mu h,aa⟩)⟩
theorem alr(b:List Int)(c:dC)(m:Nat)(hm:m<=1000)(al:c.ok b):∃(d:dC) (cn:List c9),d.ok b/\cn.length<=m+1/\(∀p∈cn,CR p)/\bT prog 120 [.cur (c.e b) (d.e b),.ro (.one (I m))] (.vals [.one (.J 3 (cn.map c9.e))]):=by
 obtain⟨ys,d,o,fa,e0,l⟩:=Pl b m hm (m+1) 0 [] c (by omega) al (by simp) (by simp);exact⟨d,ys,o,fa,e0,alc ⟨l,aa⟩⟩
end Go.Proofs.YtdchjefneblpgaaGreat
namespace Go.Proofs.YtdchjefneblpgaaGreat
open Go.Sx Go.RowKit Go.Proofs.Tryz
theorem JO{α:Type}{f:α->Nat}{k:Nat}:∀{xs:List α},(∀x∈xs,f x<=k)->(xs.map f).sum<=xs.length*k
 | [],_=>by simp
 | a::xs,h=>by
  have h1:=h a (by simp);have U:=JO (f:=f) (k:=k) (xs:=xs) (fun x ak=>h x (by simp[ak]));simp only[mn,EQ,hz,gB,Nat.one_mul];omega
theorem JP{g:bR}{xs:List aB}:mZ g xs=true<->dY g=true/\xs.length<=20/\xs.any rR=false:=by
 simp only[mZ,cF,cW,h8,and_assoc]
theorem als{g:bR}{xs:List aB}(h:mZ g xs=true):(ky g xs).sz<=g.sz+1000:=by
 obtain⟨h1,U,_⟩:=JP.1 h;have a8:=nt h1;obtain⟨n,BN⟩:∃n:Nat,g.ay=n:=⟨g.ay.toNat,by omega⟩
 have a:=JO (f:=aR.sz) (k:=92) (xs:=qg g xs n) (fun x ak=>by
  simp only[qg,lJ]at ak;obtain⟨w,_,rfl⟩:=ak;have:=PR (g:=g) U (w:Nat);simp only[rS,aR.sz,dR,List.length_replicate];omega)
 have b:=JO (f:=bu.sz) (k:=0) (xs:=List.replicate (n*n) (pz g.cap)) (fun x ak=>by
  rw[List.eq_of_mem_replicate ak];simp[pz,bu.sz])
 have hm:n*n<=4*4:=Nat.mul_le_mul (by omega) (by omega);simp only[ky,bb.sz,eZ,BN,pP,List.length_replicate,dR,Ij]at a b ⊢;omega
theorem Pm(g:bR)(xs:List aB):gb (ky g xs):=by
 intro l ap;have:=List.eq_of_mem_replicate ap;subst this;simp[pz]
end Go.Proofs.YtdchjefneblpgaaGreat
namespace Go.Proofs.YtdchjefneblpgaaGreat
open Go.Sx Go.RowKit Go.Proofs.Tryz
theorem lb.size{g:bR}(h:lb g):g.sz<=100:=by
 obtain⟨⟨k,a,b,c,v,hk,ah,aw,al,bz,a8⟩,hw,fS⟩:=h;obtain⟨nodes,ay,cap⟩:=g;simp only at a8;subst a8;have e:(⟨oh k a b c v,ay,cap⟩:bR).sz=eZ Node.sz (oh k a b c v):=rfl;rw[e];have bh:v=0\/v=1\/v=2\/v=3\/v=4:=by omega
 rcases bh with rfl | rfl | rfl | rfl | rfl<;>simp[eZ,oh,w2,Node.sz]
theorem Input.VS{r:aB}(h:Input r):rR r=false:=by
 obtain⟨h1,U,ax,aJ,aY⟩:=h;have ok:eR r=true:=by
  simp only[eR,gT,eY,aq,cF,cW,h1,U];omega
 simp[rR,ok,h1,U]
theorem alu{g:bR}{xs:List aB}(av:lb g)(ap:xs.length<=6)(ak:∀r∈xs,Input r):mZ g xs=true:=
 JP.2 ⟨av.ok,by omega,hd.2 fun r aH=>by simp[(ak r aH).VS]⟩
end Go.Proofs.YtdchjefneblpgaaGreat
namespace Go.Proofs.YtdchjefneblpgaaGreat
open Go.Sx Go.RowKit Go.Proofs.Tryz
def Fair(r:aB):Prop:=(0<=r.op/\r.op<5)/\(0<=r.bp.bc/\r.bp.bc<4)/\(0<=r.bp.dT/\r.bp.dT<5)/\(0<=r.key/\r.key<12)/\(0<=r.val/\r.val<40)
theorem uw{n:Int}(h1:-9223372036854775808<=n)(U:n<=9223372036854775807):aI .i64 n:=⟨h1,U⟩
theorem Fair.wf{r:aB}(h:Fair r):r.wf:=by
 obtain⟨h1,U,ax,aJ,aY⟩:=h;exact⟨uw (by omega) (by omega),⟨uw (by omega) (by omega),uw (by omega) (by omega)⟩,uw (by omega) (by omega),uw (by omega) (by omega)⟩
theorem Pn(b:List Int)(c:dC)(al:c.ok b):∃(d:dC) (s:gd),d.ok b/\((0<=s.bc/\s.bc<4)/\(0<=s.dT/\s.dT<5))/\bT prog 325 [.cur (c.e b) (d.e b)] (.vals [.agg s.e]):=by
 obtain⟨d1,x,cy,h1,bK⟩:=dO b c 4 al (by omega);obtain⟨d2,y,ca,U,b2⟩:=dO b d1 5 cy (by omega);exact⟨d2,⟨x,y⟩,ca,⟨h1,U⟩,ajX ⟨bK,b2,aa⟩⟩
theorem y2{n:Int}{xs:List Int}(h:n∈xs)(ak:(xs.all fun x=>decide (-9223372036854775808<=x)&&decide (x<=9223372036854775807))=true):aI .i64 n:=by
 have:=fx.1 ak n h;simp only[cF,cW]at this;exact this
theorem alv(b:List Int)(c:dC)(al:c.ok b):∃(d:dC) (s:gd),d.ok b/\s.wf/\bT prog 272 [.cur (c.e b) (d.e b)] (.vals [.agg s.e]):=by
 obtain⟨d1,s,cy,⟨h1,U⟩,bK⟩:=Pn b c al;obtain⟨d2,k,ca,ax,b2⟩:=dO b d1 10 cy (by omega);have w1:aI .i64 s.bc:=uw (by omega) (by omega);have jK:aI .i64 s.dT:=uw (by omega) (by omega);by_cases bB:k=0
 ·obtain⟨d3,x,cC,aJ,cf⟩:=kx b d2 [-1,3,4,9223372036854775807] ca (by simp);exact⟨d3,⟨x,s.dT⟩,cC,⟨y2 aJ (by decide),jK⟩,ajY ⟨bK,b2,by simp[bB],cf,aa⟩⟩
 by_cases e1:k=1
 ·obtain⟨d3,x,cC,aJ,cf⟩:=kx b d2 [-1,5,6,7,-9223372036854775808] ca (by simp);exact⟨d3,⟨s.bc,x⟩,cC,⟨w1,y2 aJ (by decide)⟩,ajZ ⟨bK,b2,by simp[bB],by simp[e1],cf,aa⟩⟩
 exact⟨d2,s,ca,⟨w1,jK⟩,aj0 ⟨bK,b2,by simp[bB],by simp[e1],aa⟩⟩
theorem CS(b:List Int)(c:dC)(al:c.ok b):∃(d:dC) (r:aB),d.ok b/\Fair r/\bT prog 271 [.cur (c.e b) (d.e b)] (.vals [.agg r.e]):=by
 obtain⟨d1,x,cy,h1,bK⟩:=dO b c 5 al (by omega);obtain⟨d2,s,ca,⟨U,ax⟩,b2⟩:=Pn b d1 cy;obtain⟨d3,k,cC,aJ,cf⟩:=dO b d2 12 ca (by omega);obtain⟨d4,v,ff,aY,ed⟩:=dO b d3 40 cC (by omega);exact⟨d4,⟨x,s,k,v⟩,ff,⟨h1,U,ax,aJ,aY⟩,aj1 ⟨bK,b2,cf,ed,aa⟩⟩
theorem Po(b:List Int)(c:dC)(al:c.ok b):∃(d:dC) (r:aB),d.ok b/\r.wf/\bT prog 178 [.cur (c.e b) (d.e b)] (.vals [.agg r.e]):=by
 obtain⟨d1,r,cy,aH,bK⟩:=CS b c al;obtain⟨w1,jK,K8,K9⟩:=aH.wf;obtain⟨d2,k,ca,ax,b2⟩:=dO b d1 12 cy (by omega);by_cases bB:k=0
 ·obtain⟨d3,x,cC,aJ,cf⟩:=kx b d2 [-1,7,8] ca (by simp);exact⟨d3,⟨x,r.bp,r.key,r.val⟩,cC,⟨y2 aJ (by decide),jK,K8,K9⟩,aj2 ⟨bK,b2,by simp[bB],cf,aa⟩⟩
 by_cases e1:k=1
 ·obtain⟨d3,s,cC,aJ,cf⟩:=alv b d2 ca;exact⟨d3,⟨r.op,s,r.key,r.val⟩,cC,⟨w1,aJ,K8,K9⟩,aj3 ⟨bK,b2,by simp[bB],by simp[e1],cf,aa⟩⟩
 by_cases e2:k=2
 ·obtain⟨d3,x,cC,aJ,cf⟩:=kx b d2 [-1,99,100,-9223372036854775808] ca (by simp);exact⟨d3,⟨r.op,r.bp,x,r.val⟩,cC,⟨w1,jK,y2 aJ (by decide),K9⟩,aj4 ⟨bK,b2,by simp[bB],by simp[e1],by simp[e2],cf,aa⟩⟩
 by_cases cb:k=3
 ·obtain⟨d3,x,cC,aJ,cf⟩:=kx b d2 [-1,999,1000,9223372036854775807] ca (by simp);exact⟨d3,⟨r.op,r.bp,r.key,x⟩,cC,⟨w1,jK,K8,y2 aJ (by decide)⟩,aj5 ⟨bK,b2,by simp[bB],by simp[e1],by simp[e2],by simp[cb],cf,aa⟩⟩
 exact⟨d2,r,ca,aH.wf,aj6 ⟨bK,b2,by simp[bB],by simp[e1],by simp[e2],by simp[cb],aa⟩⟩
theorem Fg(r:aB):Flat [r.e]:=fV fun d aG=>by
 simp only[aB.e,ep,nG,or_false]at aG;grind
