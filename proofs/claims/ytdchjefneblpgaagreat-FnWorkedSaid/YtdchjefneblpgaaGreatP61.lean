import Derived.Test.YtdchjefneblpgaaGreatT5
import Derived.Test.YtdchjefneblpgaaGreatR35
import Derived.Test.YtdchjefneblpgaaGreatGD
import Derived.Test.YtdchjefneblpgaaGreatP72
import Derived.Test.YtdchjefneblpgaaGreatGY
set_option linter.unusedVariables false
set_option linter.unusedSimpArgs false
namespace Go.Proofs.YtdchjefneblpgaaGreat
open Go.Sx Go.RowKit Go.Proofs.Tryz
def hl(n:Int):List D:=[.v (.int .u8 n)]
structure dC where
 i:Int
 h:Int
def dC.e(b:List Int)(c:dC):List D:=[.J 1 (b.map hl),I c.i,I c.h]
def Bytes(b:List Int):Prop:=b.length<=8388608/\∀x∈b,0<=x/\x<=255
def dC.ok(b:List Int)(c:dC):Prop:=Bytes b/\0<=c.i/\c.i<=b.length
theorem asx{P:Program}{t:TypeId}{ds:List D}(hu:P.underlying t=some (.int .u8))(h:ja P t ds):∃n,ds=hl n/\0<=n/\n<=255:=by
 have U:∃n,ds=[.v (.int .u8 n)]/\(Lit.int .u8 n).wf=true:=by cases h<;>simp_all
 obtain⟨n,e,hw⟩:=U;refine⟨n,e,?_⟩;simp[Lit.wf]at hw;have ax:IntKind.u8.min=0:=rfl;rw[ax]at hw;exact hw
theorem alh:prog.cellsOf 5=1:=by kernel_rfl
theorem ali{ds:List D}(h:ja prog 22 ds):∃xs:List Int,ds=[.J 1 (xs.map hl)]/\(xs.length:Int)<=9223372036854775807/\∀a∈xs,(fun n=>0<=n/\n<=255) a:=
 ak0 hl (fun n=>0<=n/\n<=255) Tryz.underlying22 alh (fun ds h=>asx Tryz.underlying5 h) h
theorem alj{cj:cz}(h:Bd prog 22 cj):∃xs:List Int,cj=.one (.J 1 (xs.map hl))/\(xs.length:Int)<=9223372036854775807/\∀a∈xs,(fun n=>0<=n/\n<=255) a:=by
 cases cj with
 | agg ds=>have:=h.2;simp[qT,Tryz.underlying22]at this
 | one d=>
  obtain⟨x,e,ak⟩:=ali h.1;obtain rfl:=(Vm e).1;exact⟨x,rfl,ak⟩
theorem PM{P:Program}(a:Int)(n:Nat):∃m:Int,∀t x y,k7 P .shr t x y (.int .i64 a) (.int .u64 (n:Int)) (.int .i64 m):=⟨_,fun _ _ _=>akn⟩
theorem alk{P:Program}(a b:Int):∃m:Int,∀t x y,k7 P .xor t x y (.int .i64 a) (.int .i64 b) (.int .i64 m):=⟨_,fun _ _ _=>ako⟩
theorem Ij{P:Program}(a:Int)(k:Nat)(hk:k<2 ^ 62):∃m:Int,(0<=m/\m<=k)/\∀t x y,k7 P .and t x y (.int .i64 a) (.int .i64 (k:Int)) (.int .i64 m):=⟨_,akq a k hk,fun _ _ _=>akp⟩
theorem PN(b:List Int)(aw:Bytes b):∀(n i:Nat) (h:Int),i+n=b.length->0<=h/\h<=1073741823->∃q4,cW prog (ao f117 0) (wZ (b.map hl) i h) (.exit 0) (CP (b.map hl) q4)
 | 0,i,h,hi,bH=>⟨h,.last (cH 0) (akt ⟨by rw[mu,cf];omega,aa⟩)⟩
 | n+1,i,h,hi,bH=>by
  have ap:=aw.1;obtain⟨x,ak⟩:=cS (xs:=b) (i:=i) (by omega);have aw:=aw.2 x (eA ak);by_cases aI:(i:Int)<4000
  ·obtain⟨m,hm,r⟩:=Ij (P:=prog) (h*131+x+7) 1073741823 (by decide);obtain⟨q4,l⟩:=PN b ‹Bytes b› n (i+1) m (by omega) hm;exact⟨q4,.more (akr ⟨b6 (by omega),kh aI,⟨by omega,by omega⟩,bw,bE (by omega),bA hl ak,⟨by omega,by omega⟩,⟨by omega,by omega⟩,⟨by omega,by omega⟩,r _ _ _,⟨by omega,by omega⟩,aa⟩) l⟩
  exact⟨h,.last (cH 0) (aks ⟨b6 (by omega),mv aI,aa⟩)⟩
theorem alm(b:List Int)(aw:Bytes b):∃c:dC,c.ok b/\bT prog 117 [.ro (.one (.J 1 (b.map hl)))] (.im [some 0,none,none] (c.e b)):=by
 have ap:=aw.1;obtain⟨q4,l⟩:=PN b aw b.length 0 (94701+(↑(b.map hl).length:Int)) (by omega) ⟨by omega,by simp;omega⟩;exact⟨⟨0,q4⟩,⟨aw,by dsimp only;omega,by dsimp only;omega⟩,aku ⟨⟨by omega,by simp;omega⟩,l,aa⟩⟩
theorem CR(b:List Int)(c:dC)(al:c.ok b):∃(d:dC) (n:Int),d.ok b/\(0<=n/\n<=255)/\bT prog 253 [.cur (c.e b) (d.e b)] (.vals [.one (I n)]):=by
 obtain⟨⟨h1,U⟩,ax,aI⟩:=al;obtain⟨n',cg⟩:=PM (P:=prog) (IntKind.i64.wrap (IntKind.i64.wrap (c.h*6364136223846793005)+1442695040888963407)) 33;obtain⟨k0,ed⟩:=PM (P:=prog) (IntKind.i64.wrap (IntKind.i64.wrap (c.h*6364136223846793005)+1442695040888963407)) 45;obtain⟨mY,jq⟩:=alk (P:=prog) n' k0;obtain⟨n6,m6,ny⟩:=Ij (P:=prog) mY 255 (by decide);by_cases hi:c.i<b.length
 ·obtain⟨x,ak⟩:=cS (xs:=b) (i:=c.i.toNat) (by omega);have aw:=U x (eA ak);obtain⟨n8,m8,asa⟩:=Ij (P:=prog) (IntKind.i64.wrap (n6+IntKind.i64.wrap x)) 255 (by decide);exact⟨⟨c.i+1,IntKind.i64.wrap (IntKind.i64.wrap (c.h*6364136223846793005)+1442695040888963407)⟩,n8,⟨⟨h1,U⟩,by dsimp only;omega,by dsimp only;omega⟩,m8,akv ⟨cg _ _ _,ed _ _ _,jq _ _ _,ny _ _ _,by rw[cU,cf];exact hi,ax,by rw[cf];exact hi,by rw[dr,ak];rfl,asa _ _ _,⟨by omega,by omega⟩,aa⟩⟩
 exact⟨⟨c.i,IntKind.i64.wrap (IntKind.i64.wrap (c.h*6364136223846793005)+1442695040888963407)⟩,n6,⟨⟨h1,U⟩,ax,aI⟩,m6,akw ⟨cg _ _ _,ed _ _ _,jq _ _ _,ny _ _ _,by rw[mu,cf];exact hi,aa⟩⟩
theorem dO(b:List Int)(c:dC)(k:Int)(al:c.ok b)(hk:1<=k/\k<=1000000):∃(d:dC) (n:Int),d.ok b/\(0<=n/\n<k)/\bT prog 138 [.cur (c.e b) (d.e b),.ro (.one (I k))] (.vals [.one (I n)]):=by
 have md:∀m:Int,0<=m->0<=m.tmod k/\m.tmod k<k:=fun m hm=>⟨Int.tmod_nonneg _ hm,Int.tmod_lt_of_pos m (by omega)⟩
 obtain⟨d1,kt,cy,gD,bK⟩:=CR b c al;by_cases h:k<=256
 ·exact⟨d1,_,cy,md kt gD.1,akx ⟨mv (by omega),kh h,bK,by omega,aa⟩⟩
 obtain⟨d2,lv,ca,fQ,b2⟩:=CR b d1 cy;obtain⟨d3,n',cC,xO,cg⟩:=CR b d2 ca;obtain⟨d4,k0,ff,E3,ed⟩:=CR b d3 cC;exact⟨d4,_,ff,md _ (by omega),aky ⟨mv (by omega),mv h,bK,b2,cg,ed,⟨by omega,by omega⟩,⟨by omega,by omega⟩,⟨by omega,by omega⟩,⟨by omega,by omega⟩,⟨by omega,by omega⟩,⟨by omega,by omega⟩,by omega,aa⟩⟩
theorem CS(b:List Int)(c:dC)(k:Int)(al:c.ok b)(hk:1<=k/\k<=1000000):∃(d:dC) (x:Bool),d.ok b/\bT prog 136 [.cur (c.e b) (d.e b),.ro (.one (I k))] (.vals [.one (B x)]):=by
 obtain⟨d,n,o,_,r⟩:=dO b c k al hk;exact⟨d,_,o,akz ⟨r,aa⟩⟩
theorem kx(b:List Int)(c:dC)(xs:List Int)(al:c.ok b)(hk:1<=xs.length/\xs.length<=1000):∃(d:dC) (n:Int),d.ok b/\n∈xs/\bT prog 140 [.cur (c.e b) (d.e b),.ro (.one (.J 1 (xs.map a6)))] (.vals [.one (I n)]):=by
 obtain⟨d,n,o,aw,r⟩:=dO b c (xs.length:Int) al (by omega);obtain⟨x,ak⟩:=cS (xs:=xs) (i:=n.toNat) (by omega);refine⟨d,x,o,eA ak,akA ⟨?_,aw.1,by rw[cf];exact aw.2,by rw[dr,ak];rfl,aa⟩⟩;rw[cf];exact r
end Go.Proofs.YtdchjefneblpgaaGreat
namespace Go.Proofs.YtdchjefneblpgaaGreat
open Go.Sx Go.RowKit Go.Proofs.Tryz
def Input(r:aB):Prop:=r.op=0/\r.bp.dT=0/\(0<=r.bp.bc/\r.bp.bc<=2)/\(0<=r.key/\r.key<12)/\(0<=r.val/\r.val<40)
theorem PO(b:List Int):∀(n i:Nat) (e:Int) (xs:List aB) (c:dC),i+n=5->c.ok b->(0<=e/\e<=2)->xs.length<=i->(∀r∈xs,Input r)->
  ∃(ys:List aB) (d:dC),d.ok b/\ys.length<=5/\(∀r∈ys,Input r)/\cW prog (ao f119 0) (y2 (b.map hl) i e (xs.map aB.e) c.i c.h) (.exit 0) (Ib (b.map hl) (ys.map aB.e) d.i d.h)
 | n,i,e,xs,c,mN,al,he,ap,ak=>by
  obtain⟨d1,m,cy,aw,bK⟩:=dO b c 6 al (by omega);by_cases h:(i:Int)<m
  ·match n with
   | 0=>omega
   | n+1=>
    obtain⟨d2,a,ca,ag,b2⟩:=dO b d1 2 cy (by omega);obtain⟨d3,k,cC,hk,cg⟩:=dO b d2 12 ca (by omega);obtain⟨d4,v,ff,bz,ed⟩:=dO b d3 40 cC (by omega);have nJ:=CV (e+a) 0 2;have MQ:0<=hs (e+a) 0 2/\hs (e+a) 0 2<=2:=by
     unfold hs;simp only[show ¬(2:Int)<0 by omega,lN];split<;>(try split)<;>omega
    obtain⟨ys,d,o,fa,e0,l⟩:=PO b n (i+1) (hs (e+a) 0 2) (xs++[⟨0,⟨hs (e+a) 0 2,0⟩,k,v⟩]) d4 (by omega) ff MQ (by simp;omega) (fun r aH=>by
     rcases lM.1 aH with aH | aH
     ·exact ak r aH
     rw[List.mem_singleton]at aH;subst aH;exact⟨rfl,rfl,MQ,hk,bz⟩)
    refine⟨ys,d,o,fa,e0,.more ?_ l⟩;rw[gY];exact alY ⟨bK,kh h,b2,⟨by omega,by omega⟩,nJ,cg,ed,by simp;omega,by simp;omega,fV (fun d aG=>by simp only[ev,nH,or_false]at aG;rcases aG with rfl | rfl | rfl | rfl | rfl<;>exact⟨_,rfl⟩),⟨by omega,by omega⟩,aa⟩
  exact⟨xs,d1,cy,by omega,ak,.last (cH 0) (alZ ⟨bK,mv h,aa⟩)⟩
theorem PQ(b:List Int)(c:dC)(al:c.ok b):∃(d:dC) (xs:List aB),d.ok b/\xs.length<=5/\(∀r∈xs,Input r)/\bT prog 119 [.cur (c.e b) (d.e b)] (.vals [.one (.J 5 (xs.map aB.e))]):=by
 obtain⟨ys,d,o,fa,e0,l⟩:=PO b 5 0 0 [] c rfl al (by omega) (by simp) (by simp);exact⟨d,ys,o,fa,e0,al0 ⟨l,aa⟩⟩
end Go.Proofs.YtdchjefneblpgaaGreat
namespace Go.Proofs.YtdchjefneblpgaaGreat
open Go.Sx Go.RowKit Go.Proofs.Tryz
def rR(r:aB):Bool:=!eR r||r.op != 0||r.bp.dT != 0
def Ho(g:bR)(xs:List aB)(w e:Int):List aB:=xs.filter fun r=>r.bp.bc==e&&jH r.key g.ay==w
def sL(g:bR)(xs:List aB)(w:Int)(n:Nat):List aB:=(List.range n).flatMap fun e=>Ho g xs w (e:Nat)
def own(g:bR)(xs:List aB)(w:Int):List aB:=sL g xs w 4
def rS(xs:List aB):aR:=⟨[],[],xs,[],List.replicate 4 0,List.replicate 4 false,List.replicate 4 false,[]⟩
def pz(cap:Int):bu:=⟨hs cap 1 4,[],hs cap 1 4,0,0,0⟩
def D0:bW:=⟨false,0,0,false,false⟩
def qg(g:bR)(xs:List aB)(n:Nat):List aR:=(List.range n).map fun w=>rS (own g xs (w:Nat))
def ky(g:bR)(xs:List aB):bb:=⟨g,qg g xs g.ay.toNat,List.replicate (g.ay.toNat*g.ay.toNat) (pz g.cap),List.replicate 4 D0,[]⟩
def PR:bb:=⟨⟨[],0,0⟩,[],[],[],[]⟩
def m'(g:bR)(xs:List aB):Bool:=dY g&&decide (xs.length<=20)&&!xs.any rR
def w2(g:bR)(xs:List aB):bb×Bool:=if m' g xs then (ky g xs,true) else (PR,false)
theorem aln(g:bR)(xs:List aB)(w:Int)(n:Nat):sL g xs w (n+1)=sL g xs w n++Ho g xs w (n:Nat):=by
 simp[sL,List.range_succ]
theorem PS(g:bR)(xs:List aB)(w:Int)(n:Nat):(sL g xs w n).length<=n*xs.length:=by
 have h:=w5 (fun e:Nat=>Ho g xs w (e:Nat)) xs.length (fun _=>qK _ _) (List.range n);rwa[xy]at h
variable{xs:List aB}
theorem PT{g:bR}(ap:xs.length<=20)(w:Int):(own g xs w).length<=80:=by
 have:=PS g xs w 4;unfold own;omega
theorem alo{g:bR}(ap:xs.length<=20)(w:Int){n:Nat}(a8:n<4):(sL g xs w n).length<=60:=by
 have:=PS g xs w n;have:n*xs.length<=3*20:=Nat.mul_le_mul (by omega) ap;omega
theorem alp(g:bR)(xs:List aB)(n:Nat):qg g xs (n+1)=qg g xs n++[rS (own g xs (n:Nat))]:=by
 simp[qg,List.range_succ]
theorem Ik(g:bR)(xs:List aB)(n:Nat):(qg g xs n).length=n:=by simp[qg]
theorem alq{α:Type}{f:α->List D}{x:α}{m:Nat}:(List.replicate m x).map f++[f x]=(List.replicate (m+1) x).map f:=by
 rw[List.replicate_succ',gY];rfl
theorem PU(cap:Int):ar 126 [.one (I cap)] [.agg (pz cap).e]:=afl ⟨CV cap 1 4,aa⟩
theorem Pk(xs:List aB)(ap:xs.length<=1000):ar 124 [.one (.J 5 (xs.map aB.e))] [.agg (rS xs).e]:=
 afm ⟨nl (by simp;omega),jk (by simp;omega),dA _ aB.flat _,by omega,by omega,by decide,by omega,by omega,by omega,by decide,by omega,by omega,by omega,by decide,by omega,aa⟩
theorem alr(g:bR)(xs:List aB)(w:Int)(a8:1<=g.ay/\g.ay<=4)(ap:xs.length<=20):ar 125 [.agg g.e,.one (.J 5 (xs.map aB.e)),.one (I w)] [.one (.J 5 ((own g xs w).map aB.e))]:=by
 have kZ:=fun (e:Nat) (he:e<4) (acc:List aB) (ag:acc.length<=100)=>eN (P:=prog) (c:=(ao f125 1)) (cH 2) xs.length (fun i:Nat=>r0 (g.nodes.map Node.e) g.ay g.cap (xs.map aB.e) w e i ((acc++(xs.take i).filter fun r=>r.bp.bc==(e:Int)&&jH r.key g.ay==w).map aB.e)) (fun i hi=>by
  obtain⟨r,aH⟩:=cS hi;have b0:((xs.take i).filter fun r=>r.bp.bc==(e:Int)&&jH r.key g.ay==w).length<=20:=by
   have:=qK (fun r:aB=>r.bp.bc==(e:Int)&&jH r.key g.ay==w) (xs.take i);have:=Kt i xs;omega
  rw[yZ _ aH];generalize (xs.take i).filter (fun r=>r.bp.bc==(e:Int)&&jH r.key g.ay==w)=ew at*;have uE:=QQ r.key g.ay (by omega);cases h1:(r.bp.bc==(e:Int)) with
  | false=>
   rw[Bool.false_and,bG (by decide),lc];exact afg ⟨b6 hi,bw,bE hi,bA aB.e aH,h1,dc hi (by omega),aa⟩
  | true=>
   cases U:(jH r.key g.ay==w) with
   | false=>
    rw[Bool.and_false,bG (by decide),lc];exact aff ⟨b6 hi,bw,bE hi,bA aB.e aH,h1,bw,bE hi,bA aB.e aH,uE,U,dc hi (by omega),aa⟩
   | true=>
    rw[tL,bM rfl,<-tI,Kq];exact afe ⟨b6 hi,bw,bE hi,bA aB.e aH,h1,bw,bE hi,bA aB.e aH,uE,U,bw,bE hi,bA aB.e aH,by simp;omega,by simp;omega,fV (aB.flat r),dc hi (by omega),aa⟩) (afh ⟨dz,aa⟩)
 have fo:=eN (P:=prog) (c:=(ao f125 0)) (cH 0) 4 (fun n:Nat=>zr (g.nodes.map Node.e) g.ay g.cap (xs.map aB.e) w n ((sL g xs w n).map aB.e)) (fun n a8=>by
  have:=kZ n a8 (sL g xs w n) (by have:=alo (g:=g) ap w a8;omega);rw[la,List.take_zero,List.filter_nil,lc]at this;rw[aln];exact afi ⟨dM (by omega),this,⟨by omega,by omega⟩,aa⟩) (afj ⟨eL (by omega),aa⟩)
 exact afk ⟨fo,aa⟩
theorem Il{g:bR}(h:m' g xs=false):w2 g xs=(PR,false):=by unfold w2;rw[h];rfl
theorem Im{g:bR}(h:m' g xs=true):w2 g xs=(ky g xs,true):=by unfold w2;rw[h];rfl
theorem als(g:bR)(xs:List aB)(ap:xs.length<=20):
  (xs.any rR=false/\cW prog (ao f14 0) (pF (xs.map aB.e) 0 0 0 (g.nodes.map Node.e) g.ay g.cap) (.exit 0) (Jl (xs.map aB.e) 0 0 (g.nodes.map Node.e) g.ay g.cap))\/
  (xs.any rR=true/\cW prog (ao f14 0) (pF (xs.map aB.e) 0 0 0 (g.nodes.map Node.e) g.ay g.cap) .ret (wL false 0 0)):=by
 have l:=gy (P:=prog) (c:=(ao f14 0)) xs rR (fun i=>pF (xs.map aB.e) i 0 0 (g.nodes.map Node.e) g.ay g.cap) (e1:=.ret) (e2:=.exit 0) (X:=fun _ _=>wL false 0 0) e7 (cH 0)
  (fun i a ag h=>by
   simp only[rR,gn]at h;have hi:=a1 ag;exact ae6 ⟨b6 hi,bw,bE hi,bA aB.e ag,rT a,h.1.1,bw,bE hi,bA aB.e ag,h.1.2,bw,bE hi,bA aB.e ag,h.2,dc hi (by omega),aa⟩)
  (fun i a ag h=>by
   have hi:=a1 ag;have gL:=rT a;unfold rR at h;cases h1:(!eR a) with
   | true=>exact ae3 ⟨b6 hi,bw,bE hi,bA aB.e ag,gL,h1,aa⟩
   | false=>
    cases U:(a.op != 0) with
    | true=>exact ae4 ⟨b6 hi,bw,bE hi,bA aB.e ag,gL,h1,bw,bE hi,bA aB.e ag,U,aa⟩
    | false=>
     rw[h1,U,jt,jt]at h;exact ae5 ⟨b6 hi,bw,bE hi,bA aB.e ag,gL,h1,bw,bE hi,bA aB.e ag,U,bw,bE hi,bA aB.e ag,h,aa⟩)
  (ae7 ⟨dz,aa⟩)
 rcases l with⟨_,_,h1,U⟩ | ⟨i,a,_,_,_,_,h1,U⟩
 ·exact .inl ⟨h1,U⟩
 exact .inr ⟨h1,U⟩
theorem alu(g:bR)(xs:List aB)(a8:1<=g.ay/\g.ay<=4)(ap:xs.length<=20):
  cW prog (ao f14 1) (wM (xs.map aB.e) 0 (g.nodes.map Node.e) g.ay g.cap [] [] ((List.replicate 4 D0).map bW.e) 0 0 (g.nodes.map Node.e) g.ay g.cap) (.exit 2)
   (Jm (g.nodes.map Node.e) g.ay g.cap ((qg g xs g.ay.toNat).map aR.e) ((List.replicate (g.ay.toNat*g.ay.toNat) (pz g.cap)).map bu.e) ((List.replicate 4 D0).map bW.e) 0 0):=by
 obtain⟨n,BP⟩:∃n:Nat,g.ay=n:=⟨g.ay.toNat,by omega⟩
 have BO:n<=4:=by omega
 have yL:=fun (w:Nat) (m:Nat) (W T:List (List D)) (hm:m<=16)=>eN (P:=prog) (c:=(ao f14 2)) (cH 4) n (fun k:Nat=>zq (xs.map aB.e) w k (g.nodes.map Node.e) g.ay g.cap W ((List.replicate (m+k) (pz g.cap)).map bu.e) T 0 0 (g.nodes.map Node.e) g.ay g.cap) (fun k hk=>by
  rw[<-ER,<-alq];exact ae9 ⟨dM (by omega),PU g.cap,by simp;omega,by simp;omega,⟨by omega,by omega⟩,aa⟩) (afa ⟨eL (by omega),aa⟩)
 have kZ:=eN (P:=prog) (c:=(ao f14 1)) (cH 2) n (fun w:Nat=>wM (xs.map aB.e) w (g.nodes.map Node.e) g.ay g.cap ((qg g xs w).map aR.e) ((List.replicate (w*n) (pz g.cap)).map bu.e) ((List.replicate 4 D0).map bW.e) 0 0 (g.nodes.map Node.e) g.ay g.cap) (fun w hw=>by
  have sF:=Ik g xs w;have hm:w*n<=3*4:=Nat.mul_le_mul (by omega) BO;rw[alp,Kq,show (w+1)*n=w*n+n by rw[gB,Nat.one_mul]];exact afb ⟨dM (by omega),alr g xs w a8 ap,Pk _ (by have:=PT (g:=g) ap (w:Nat);omega),by simp[sF];omega,by simp[sF];omega,yL w (w*n) _ _ (by omega),⟨by omega,by omega⟩,aa⟩) (afc ⟨eL (by omega),aa⟩)
 rw[show ((0:Nat)*n)=0 by omega]at kZ;rw[BP,pP];rw[BP]at kZ;exact kZ
theorem Pl(g:bR)(xs:List aB)(av:g.sz<=8388608):ar 14 [.agg g.e,.one (.J 5 (xs.map aB.e))] [.agg (w2 g xs).1.e,.one (B (w2 g xs).2)]:=by
 have vL:=w8 g av;cases h1:dY g with
 | false=>
  rw[h1]at vL;rw[Il (by unfold m';rw[h1];rfl)];exact ae1 ⟨vL,rfl,aa⟩
 | true=>
 rw[h1]at vL;by_cases ap:xs.length<=20
 case neg=>
  rw[Il (by unfold m';rw[mv ap,Bool.and_false];rfl)];exact ae2 ⟨vL,rfl,dM (by simp;omega),aa⟩
 rcases als g xs ap with⟨U,l⟩ | ⟨U,l⟩
 ·rw[Im (by unfold m';rw[h1,U,kh ap];rfl)];exact afd ⟨vL,rfl,eL (by simp;omega),l,RO g av,by omega,by omega,by decide,by omega,alu g xs (nu h1) ap,aa⟩
 rw[Il (by unfold m';rw[U];simp)];exact ae8 ⟨vL,rfl,eL (by simp;omega),l,aa⟩
end Go.Proofs.YtdchjefneblpgaaGreat
namespace Go.Proofs.YtdchjefneblpgaaGreat
open Go.Sx Go.RowKit Go.Proofs.Tryz
def w3(k a b:Int):List Node:=[⟨1,0,0,[1]⟩,⟨k,0,0,[2,5]⟩,⟨4,1+a,0,[3]⟩,⟨2,b,0,[4]⟩,⟨7,0,0,[1]⟩,⟨8,0,0,[]⟩]
def oi(k a b c:Int):Nat->List Node
 | 0=>(w3 k a b).set 3 ⟨3,1+c,0,[4]⟩
 | 1=>(w3 k a b).set 4 ⟨8,0,0,[]⟩
 | 2=>(w3 k a b).set 2 ⟨4,1+a,0,[3,4]⟩
 | 3=>(w3 k a b++[(⟨8,0,0,[]⟩:Node)]).set 0 ⟨1,0,0,[1,6]⟩
 | _=>w3 k a b
structure lg (g:bR):Prop where
 nodes:∃(k a b c:Int) (v:Nat),(k=5\/k=6)/\(0<=a/\a<3)/\(0<=b/\b<4)/\(0<=c/\c<3)/\v<=4/\g.nodes=oi k a b c v
 ay:1<=g.ay/\g.ay<=3
 cap:1<=g.cap/\g.cap<=3
theorem lg.ok{g:bR}(h:lg g):dY g=true:=by
 obtain⟨⟨k,a,b,c,v,hk,ag,aw,al,bz,a8⟩,hw,fS⟩:=h;obtain⟨nodes,ay,cap⟩:=g;simp only at a8 hw fS;have VP:a=0\/a=1\/a=2:=by omega
 have VQ:b=0\/b=1\/b=2\/b=3:=by omega
 have VR:c=0\/c=1\/c=2:=by omega
 have bh:v=0\/v=1\/v=2\/v=3\/v=4:=by omega
 have atq:ay=1\/ay=2\/ay=3:=by omega
 have cB:cap=1\/cap=2\/cap=3:=by omega
 have key:∀k∈[(5:Int),6],∀a∈[(0:Int),1,2],∀b∈[(0:Int),1,2,3],∀c∈[(0:Int),1,2],∀v∈[0,1,2,3,4],(!(anyI (iw ⟨oi k a b c v,1,1⟩) 0 (oi k a b c v))&&decide ((oi k a b c v).length<=7)&&decide (1<=(oi k a b c v).length))=true:=by decide +kernel
 have:=key k (by rcases hk with h | h<;>simp[h]) a (by rcases VP with h | h | h<;>simp[h]) b (by rcases VQ with h | h | h | h<;>simp[h]) c (by rcases VR with h | h | h<;>simp[h]) v (by rcases bh with h | h | h | h | h<;>simp[h]);simp only[cF,cU]at this;obtain⟨⟨h1,U⟩,ax⟩:=this;subst a8;have Xh:iw ⟨oi k a b c v,ay,cap⟩=iw ⟨oi k a b c v,1,1⟩:=rfl;unfold dY;simp only[cF];rw[Xh];refine⟨⟨⟨?_,?_⟩,?_⟩,h1⟩
 ·simp only[aq,cF,cU];omega
 ·simp only[aq,cF,cU];omega
 simp only[aq,cF,cU];omega
theorem Pm(b:List Int)(c:dC)(al:c.ok b):∃(d:dC) (g:bR),d.ok b/\lg g/\bT prog 118 [.cur (c.e b) (d.e b)] (.vals [.agg g.e]):=by
 obtain⟨d1,kt,cy,h1,bK⟩:=dO b c 3 al (by omega);obtain⟨d2,lv,ca,U,b2⟩:=dO b d1 3 cy (by omega);obtain⟨d3,x,cC,cg⟩:=CS b d2 3 ca (by omega);obtain⟨d4,k0,ff,aI,ed⟩:=dO b d3 3 cC (by omega);obtain⟨d5,mY,rD,aX,jq⟩:=dO b d4 4 ff (by omega);obtain⟨d6,n6,X9,bx,ny⟩:=dO b d5 3 rD (by omega);obtain⟨d7,n7,X',bN,qD⟩:=dO b d6 6 X9 (by omega);have i1:aJ .i64 (1+kt):=⟨by omega,by omega⟩
 have i2:aJ .i64 (1+lv):=⟨by omega,by omega⟩
 have i4:aJ .i64 (1+k0):=⟨by omega,by omega⟩
 have i6:aJ .i64 (1+n6):=⟨by omega,by omega⟩
 have fin:∀(k:Int) (v:Nat) {ds:List (List D)},(k=5\/k=6)->v<=4->lh ds ((oi k k0 mY n6 v).map Node.e)->bT prog 118 [.cur (c.e b) (d7.e b)] (.vals [.agg [.J 4 ds,I (1+kt),I (1+lv)]])->
   ∃(d:dC) (g:bR),d.ok b/\lg g/\bT prog 118 [.cur (c.e b) (d.e b)] (.vals [.agg g.e]):=by
  intro k v ds hk bz b0 aH;exact⟨d7,⟨oi k k0 mY n6 v,1+kt,1+lv⟩,X',⟨⟨k,k0,mY,n6,v,hk,aI,aX,bx,bz,rfl⟩,by dsimp only;omega,by dsimp only;omega⟩,
   aH.fit (.cons (.agg (.cons (.J 4 b0) (jv.refl _))) .nil)⟩
 have f1:∀d,Fit d d:=.refl;by_cases bB:n7=0
 ·cases x
  ·exact fin 5 0 (.inl rfl) (by omega) (by repeat (first | exact .refl _ | constructor)) (alI ⟨bK,i1,b2,i2,cg,rfl,ed,i4,jq,ny,i6,qD,by simp[bB],by omega,by simp,rfl,aa⟩)
  exact fin 6 0 (.inr rfl) (by omega) (by repeat (first | exact .refl _ | constructor)) (alD ⟨bK,i1,b2,i2,cg,rfl,ed,i4,jq,ny,i6,qD,by simp[bB],by omega,by simp,rfl,aa⟩)
 by_cases e1:n7=1
 ·cases x
  ·exact fin 5 1 (.inl rfl) (by omega) (by repeat (first | exact .refl _ | constructor)) (alJ ⟨bK,i1,b2,i2,cg,rfl,ed,i4,jq,ny,i6,qD,by simp[bB],by simp[e1],by omega,by simp,rfl,aa⟩)
  exact fin 6 1 (.inr rfl) (by omega) (by repeat (first | exact .refl _ | constructor)) (alE ⟨bK,i1,b2,i2,cg,rfl,ed,i4,jq,ny,i6,qD,by simp[bB],by simp[e1],by omega,by simp,rfl,aa⟩)
 by_cases e2:n7=2
 ·cases x
  ·exact fin 5 2 (.inl rfl) (by omega) (by repeat (first | exact .refl _ | constructor)) (alK ⟨bK,i1,b2,i2,cg,rfl,ed,i4,jq,ny,i6,qD,by simp[bB],by simp[e1],by simp[e2],by omega,by simp,rfl,aa⟩)
  exact fin 6 2 (.inr rfl) (by omega) (by repeat (first | exact .refl _ | constructor)) (alF ⟨bK,i1,b2,i2,cg,rfl,ed,i4,jq,ny,i6,qD,by simp[bB],by simp[e1],by simp[e2],by omega,by simp,rfl,aa⟩)
 by_cases cb:n7=3
 ·cases x
  ·exact fin 5 3 (.inl rfl) (by omega) (by repeat (first | exact .refl _ | constructor)) (alL ⟨bK,i1,b2,i2,cg,rfl,ed,i4,jq,ny,i6,qD,by simp[bB],by simp[e1],by simp[e2],by simp[cb],by simp,by simp,by omega,by simp,rfl,aa⟩)
  exact fin 6 3 (.inr rfl) (by omega) (by repeat (first | exact .refl _ | constructor)) (alG ⟨bK,i1,b2,i2,cg,rfl,ed,i4,jq,ny,i6,qD,by simp[bB],by simp[e1],by simp[e2],by simp[cb],by simp,by simp,by omega,by simp,rfl,aa⟩)
 cases x
 ·exact fin 5 4 (.inl rfl) (by omega) (by repeat (first | exact .refl _ | constructor)) (alM ⟨bK,i1,b2,i2,cg,rfl,ed,i4,jq,ny,i6,qD,by simp[bB],by simp[e1],by simp[e2],by simp[cb],aa⟩)
 exact fin 6 4 (.inr rfl) (by omega) (by repeat (first | exact .refl _ | constructor)) (alH ⟨bK,i1,b2,i2,cg,rfl,ed,i4,jq,ny,i6,qD,by simp[bB],by simp[e1],by simp[e2],by simp[cb],aa⟩)
def CT(p:c9):Prop:=(1<=p.kind/\p.kind<=7)/\(0<=p.a/\p.a<3)/\(0<=p.b/\p.b<3)
theorem alv(b:List Int)(c:dC)(al:c.ok b):∃(d:dC) (p:c9),d.ok b/\CT p/\bT prog 242 [.cur (c.e b) (d.e b)] (.vals [.agg p.e]):=by
 obtain⟨d1,k,cy,h1,bK⟩:=kx b c [1,1,1,2,3,3,3,4,4,5,6,6,7] al (by simp);obtain⟨d2,a,ca,U,b2⟩:=dO b d1 3 cy (by omega);have hk:1<=k/\k<=7:=by
  simp only[ev,nH,or_false]at h1;omega
 by_cases d':k=4
 ·obtain⟨d3,m,cC,ax,cg⟩:=dO b d2 2 ca (by omega);have uz:aJ .i64 (a+1):=⟨by omega,by omega⟩
  have sG:aJ .i64 (a+1+m):=⟨by omega,by omega⟩
  exact⟨d3,⟨k,a,(a+1+m).tmod 3⟩,cC,⟨hk,U,Int.tmod_nonneg _ (by omega),Int.tmod_lt_of_pos _ (by omega)⟩,al2 ⟨bK,b2,by simp[d'],al1 ⟨uz,cg,sG,by decide,aa⟩,aa⟩⟩
 by_cases g':k=5
 ·obtain⟨d3,m,cC,ax,cg⟩:=dO b d2 2 ca (by omega);have uz:aJ .i64 (a+1):=⟨by omega,by omega⟩
  have sG:aJ .i64 (a+1+m):=⟨by omega,by omega⟩
  exact⟨d3,⟨k,a,(a+1+m).tmod 3⟩,cC,⟨hk,U,Int.tmod_nonneg _ (by omega),Int.tmod_lt_of_pos _ (by omega)⟩,alc ⟨bK,b2,by simp[d'],by simp[g'],alb ⟨uz,cg,sG,by decide,aa⟩,aa⟩⟩
 exact⟨d2,⟨k,a,0⟩,ca,⟨hk,U,by dsimp only;omega⟩,ald ⟨bK,b2,by simp[d'],by simp[g'],aa⟩⟩
theorem VZ(p:c9):Flat [p.e]:=fV fun d aG=>by
 simp only[c9.e,ev,nH,or_false]at aG;rcases aG with rfl | rfl | rfl<;>exact⟨_,rfl⟩
theorem Pn(b:List Int)(m:Nat)(hm:m<=1000):∀(n i:Nat) (xs:List c9) (c:dC),i+n=m+1->c.ok b->xs.length<=i->(∀p∈xs,CT p)->
  ∃(ys:List c9) (d:dC),d.ok b/\ys.length<=m+1/\(∀p∈ys,CT p)/\cW prog (ao f120 0) (y3 (b.map hl) m i (xs.map c9.e) c.i c.h) (.exit 0) (Ii (b.map hl) (ys.map c9.e) d.i d.h)
 | n,i,xs,c,mN,al,ap,ak=>by
  obtain⟨d1,k,cy,hk,bK⟩:=dO b c ((m:Int)+1) al (by omega);by_cases h:(i:Int)<k
  ·match n with
   | 0=>omega
   | n+1=>
    obtain⟨d2,p,ca,hp,b2⟩:=alv b d1 cy;obtain⟨ys,d,o,fa,e0,l⟩:=Pn b m hm n (i+1) (xs++[p]) d2 (by omega) ca (by simp;omega) (fun z bk=>by
     rcases lM.1 bk with bk | bk
     ·exact ak z bk
     rw[List.mem_singleton]at bk;subst bk;exact hp)
    refine⟨ys,d,o,fa,e0,.more ?_ l⟩;rw[gY];exact ale ⟨⟨by omega,by omega⟩,bK,kh h,b2,by simp;omega,by simp;omega,VZ p,⟨by omega,by omega⟩,aa⟩
  exact⟨xs,d1,cy,by omega,ak,.last (cH 0) (alf ⟨⟨by omega,by omega⟩,bK,mv h,aa⟩)⟩
theorem alw(b:List Int)(c:dC)(m:Nat)(hm:m<=1000)(al:c.ok b):∃(d:dC) (cn:List c9),d.ok b/\cn.length<=m+1/\(∀p∈cn,CT p)/\bT prog 120 [.cur (c.e b) (d.e b),.ro (.one (I m))] (.vals [.one (.J 3 (cn.map c9.e))]):=by
 obtain⟨ys,d,o,fa,e0,l⟩:=Pn b m hm (m+1) 0 [] c (by omega) al (by simp) (by simp);exact⟨d,ys,o,fa,e0,alg ⟨l,aa⟩⟩
end Go.Proofs.YtdchjefneblpgaaGreat
namespace Go.Proofs.YtdchjefneblpgaaGreat
open Go.Sx Go.RowKit Go.Proofs.Tryz
theorem JP{α:Type}{f:α->Nat}{k:Nat}:∀{xs:List α},(∀x∈xs,f x<=k)->(xs.map f).sum<=xs.length*k
 | [],_=>by simp
 | a::xs,h=>by
  have h1:=h a (by simp);have U:=JP (f:=f) (k:=k) (xs:=xs) (fun x ak=>h x (by simp[ak]));simp only[lL,A2,gP,gB,Nat.one_mul];omega
theorem JQ{g:bR}{xs:List aB}:m' g xs=true<->dY g=true/\xs.length<=20/\xs.any rR=false:=by
 simp only[m',cF,cU,h8,and_assoc]
theorem alx{g:bR}{xs:List aB}(h:m' g xs=true):(ky g xs).sz<=g.sz+1000:=by
 obtain⟨h1,U,_⟩:=JQ.1 h;have a8:=nu h1;obtain⟨n,BP⟩:∃n:Nat,g.ay=n:=⟨g.ay.toNat,by omega⟩
 have a:=JP (f:=aR.sz) (k:=92) (xs:=qg g xs n) (fun x ak=>by
  simp only[qg,kK]at ak;obtain⟨w,_,rfl⟩:=ak;have:=PT (g:=g) U (w:Nat);simp only[rS,aR.sz,dR,List.length_replicate];omega)
 have b:=JP (f:=bu.sz) (k:=0) (xs:=List.replicate (n*n) (pz g.cap)) (fun x ak=>by
  rw[List.eq_of_mem_replicate ak];simp[pz,bu.sz])
 have hm:n*n<=4*4:=Nat.mul_le_mul (by omega) (by omega);simp only[ky,bb.sz,eZ,BP,pP,List.length_replicate,dR,Ik]at a b ⊢;omega
theorem Po(g:bR)(xs:List aB):gb (ky g xs):=by
 intro l ap;have:=List.eq_of_mem_replicate ap;subst this;simp[pz]
end Go.Proofs.YtdchjefneblpgaaGreat
namespace Go.Proofs.YtdchjefneblpgaaGreat
open Go.Sx Go.RowKit Go.Proofs.Tryz
theorem lg.size{g:bR}(h:lg g):g.sz<=100:=by
 obtain⟨⟨k,a,b,c,v,hk,ag,aw,al,bz,a8⟩,hw,fS⟩:=h;obtain⟨nodes,ay,cap⟩:=g;simp only at a8;subst a8;have e:(⟨oi k a b c v,ay,cap⟩:bR).sz=eZ Node.sz (oi k a b c v):=rfl;rw[e];have bh:v=0\/v=1\/v=2\/v=3\/v=4:=by omega
 rcases bh with rfl | rfl | rfl | rfl | rfl<;>simp[eZ,oi,w3,Node.sz]
theorem Input.VW{r:aB}(h:Input r):rR r=false:=by
 obtain⟨h1,U,ax,aI,aX⟩:=h;have ok:eR r=true:=by
  simp only[eR,gU,eY,aq,cF,cU,h1,U];omega
 simp[rR,ok,h1,U]
theorem aly{g:bR}{xs:List aB}(av:lg g)(ap:xs.length<=6)(ak:∀r∈xs,Input r):m' g xs=true:=
 JQ.2 ⟨av.ok,by omega,hg.2 fun r aH=>by simp[(ak r aH).VW]⟩
end Go.Proofs.YtdchjefneblpgaaGreat
namespace Go.Proofs.YtdchjefneblpgaaGreat
open Go.Sx Go.RowKit Go.Proofs.Tryz
def Fair(r:aB):Prop:=(0<=r.op/\r.op<5)/\(0<=r.bp.bc/\r.bp.bc<4)/\(0<=r.bp.dT/\r.bp.dT<5)/\(0<=r.key/\r.key<12)/\(0<=r.val/\r.val<40)
theorem uy{n:Int}(h1:-9223372036854775808<=n)(U:n<=9223372036854775807):aJ .i64 n:=⟨h1,U⟩
theorem Fair.wf{r:aB}(h:Fair r):r.wf:=by
 obtain⟨h1,U,ax,aI,aX⟩:=h;exact⟨uy (by omega) (by omega),⟨uy (by omega) (by omega),uy (by omega) (by omega)⟩,uy (by omega) (by omega),uy (by omega) (by omega)⟩
theorem Pp(b:List Int)(c:dC)(al:c.ok b):∃(d:dC) (s:gd),d.ok b/\((0<=s.bc/\s.bc<4)/\(0<=s.dT/\s.dT<5))/\bT prog 325 [.cur (c.e b) (d.e b)] (.vals [.agg s.e]):=by
 obtain⟨d1,x,cy,h1,bK⟩:=dO b c 4 al (by omega);obtain⟨d2,y,ca,U,b2⟩:=dO b d1 5 cy (by omega);exact⟨d2,⟨x,y⟩,ca,⟨h1,U⟩,aj1 ⟨bK,b2,aa⟩⟩
theorem y4{n:Int}{xs:List Int}(h:n∈xs)(ak:(xs.all fun x=>decide (-9223372036854775808<=x)&&decide (x<=9223372036854775807))=true):aJ .i64 n:=by
 have:=fx.1 ak n h;simp only[cF,cU]at this;exact this
theorem alz(b:List Int)(c:dC)(al:c.ok b):∃(d:dC) (s:gd),d.ok b/\s.wf/\bT prog 272 [.cur (c.e b) (d.e b)] (.vals [.agg s.e]):=by
 obtain⟨d1,s,cy,⟨h1,U⟩,bK⟩:=Pp b c al;obtain⟨d2,k,ca,ax,b2⟩:=dO b d1 10 cy (by omega);have w1:aJ .i64 s.bc:=uy (by omega) (by omega);have jL:aJ .i64 s.dT:=uy (by omega) (by omega);by_cases bB:k=0
 ·obtain⟨d3,x,cC,aI,cg⟩:=kx b d2 [-1,3,4,9223372036854775807] ca (by simp);exact⟨d3,⟨x,s.dT⟩,cC,⟨y4 aI (by decide),jL⟩,aj2 ⟨bK,b2,by simp[bB],cg,aa⟩⟩
 by_cases e1:k=1
 ·obtain⟨d3,x,cC,aI,cg⟩:=kx b d2 [-1,5,6,7,-9223372036854775808] ca (by simp);exact⟨d3,⟨s.bc,x⟩,cC,⟨w1,y4 aI (by decide)⟩,aj3 ⟨bK,b2,by simp[bB],by simp[e1],cg,aa⟩⟩
 exact⟨d2,s,ca,⟨w1,jL⟩,aj4 ⟨bK,b2,by simp[bB],by simp[e1],aa⟩⟩
theorem CU(b:List Int)(c:dC)(al:c.ok b):∃(d:dC) (r:aB),d.ok b/\Fair r/\bT prog 271 [.cur (c.e b) (d.e b)] (.vals [.agg r.e]):=by
 obtain⟨d1,x,cy,h1,bK⟩:=dO b c 5 al (by omega);obtain⟨d2,s,ca,⟨U,ax⟩,b2⟩:=Pp b d1 cy;obtain⟨d3,k,cC,aI,cg⟩:=dO b d2 12 ca (by omega);obtain⟨d4,v,ff,aX,ed⟩:=dO b d3 40 cC (by omega);exact⟨d4,⟨x,s,k,v⟩,ff,⟨h1,U,ax,aI,aX⟩,aj5 ⟨bK,b2,cg,ed,aa⟩⟩
theorem Pq(b:List Int)(c:dC)(al:c.ok b):∃(d:dC) (r:aB),d.ok b/\r.wf/\bT prog 178 [.cur (c.e b) (d.e b)] (.vals [.agg r.e]):=by
 obtain⟨d1,r,cy,aH,bK⟩:=CU b c al;obtain⟨w1,jL,K9,K'⟩:=aH.wf;obtain⟨d2,k,ca,ax,b2⟩:=dO b d1 12 cy (by omega);by_cases bB:k=0
 ·obtain⟨d3,x,cC,aI,cg⟩:=kx b d2 [-1,7,8] ca (by simp);exact⟨d3,⟨x,r.bp,r.key,r.val⟩,cC,⟨y4 aI (by decide),jL,K9,K'⟩,aj6 ⟨bK,b2,by simp[bB],cg,aa⟩⟩
 by_cases e1:k=1
 ·obtain⟨d3,s,cC,aI,cg⟩:=alz b d2 ca;exact⟨d3,⟨r.op,s,r.key,r.val⟩,cC,⟨w1,aI,K9,K'⟩,aj7 ⟨bK,b2,by simp[bB],by simp[e1],cg,aa⟩⟩
 by_cases e2:k=2
 ·obtain⟨d3,x,cC,aI,cg⟩:=kx b d2 [-1,99,100,-9223372036854775808] ca (by simp);exact⟨d3,⟨r.op,r.bp,x,r.val⟩,cC,⟨w1,jL,y4 aI (by decide),K'⟩,aj8 ⟨bK,b2,by simp[bB],by simp[e1],by simp[e2],cg,aa⟩⟩
 by_cases cb:k=3
 ·obtain⟨d3,x,cC,aI,cg⟩:=kx b d2 [-1,999,1000,9223372036854775807] ca (by simp);exact⟨d3,⟨r.op,r.bp,r.key,x⟩,cC,⟨w1,jL,K9,y4 aI (by decide)⟩,aj9 ⟨bK,b2,by simp[bB],by simp[e1],by simp[e2],by simp[cb],cg,aa⟩⟩
 exact⟨d2,r,ca,aH.wf,aka ⟨bK,b2,by simp[bB],by simp[e1],by simp[e2],by simp[cb],aa⟩⟩
theorem Fh(r:aB):Flat [r.e]:=fV fun d aG=>by
 simp only[aB.e,ev,nH,or_false]at aG;rcases aG with rfl | rfl | rfl | rfl | rfl<;>exact⟨_,rfl⟩
