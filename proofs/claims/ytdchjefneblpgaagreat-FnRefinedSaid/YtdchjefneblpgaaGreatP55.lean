import Derived.Test.YtdchjefneblpgaaGreatP43
import Derived.Test.YtdchjefneblpgaaGreatGY
import Derived.Test.YtdchjefneblpgaaGreatT5
import Derived.Test.YtdchjefneblpgaaGreatR35
import Derived.Test.YtdchjefneblpgaaGreatGD
set_option linter.unusedVariables false
set_option linter.unusedSimpArgs false
namespace Go.Proofs.YtdchjefneblpgaaGreat
open Go.Sx Go.RowKit Go.Proofs.Tryz
def tZ(r:aq):Bool:=!fE r||r.op != 0||r.bq.dC != 0
def KB(g:b9)(xs:List aq)(w e:Int):List aq:=xs.filter fun r=>r.bq.bd==e&&jK r.key g.az==w
def u'(g:b9)(xs:List aq)(w:Int)(n:Nat):List aq:=(List.range n).flatMap fun e=>KB g xs w (e:Nat)
def own(g:b9)(xs:List aq)(w:Int):List aq:=u' g xs w 4
def t'(xs:List aq):aP:=⟨[],[],xs,[],List.replicate 4 0,List.replicate 4 false,List.replicate 4 false,[]⟩
def rD(cap:Int):bw:=⟨iZ cap 1 4,[],iZ cap 1 4,0,0,0⟩
def G2:b4:=⟨false,0,0,false,false⟩
def sH(g:b9)(xs:List aq)(n:Nat):List aP:=(List.range n).map fun w=>t' (own g xs (w:Nat))
def oG(g:b9)(xs:List aq):a':=⟨g,sH g xs g.az.toNat,List.replicate (g.az.toNat*g.az.toNat) (rD g.cap),List.replicate 4 G2,[]⟩
def Xa:a':=⟨⟨[],0,0⟩,[],[],[],[]⟩
def p9(g:b9)(xs:List aq):Bool:=eM g&&decide (xs.length<=20)&&!xs.any tZ
def zS(g:b9)(xs:List aq):a'×Bool:=if p9 g xs then (oG g xs,true) else (Xa,false)
theorem aqr(g:b9)(xs:List aq)(w:Int)(n:Nat):u' g xs w (n+1)=u' g xs w n++KB g xs w (n:Nat):=by
 simp[u',List.range_succ]
theorem Xb(g:b9)(xs:List aq)(w:Int)(n:Nat):(u' g xs w n).length<=n*xs.length:=by
 have h:=zr (fun e:Nat=>KB g xs w (e:Nat)) xs.length (fun _=>qw _ _) (List.range n);rwa[An]at h
variable{xs:List aq}
theorem Xc{g:b9}(ap:xs.length<=20)(w:Int):(own g xs w).length<=80:=by
 have:=Xb g xs w 4;unfold own;omega
theorem aqs{g:b9}(ap:xs.length<=20)(w:Int){n:Nat}(aX:n<4):(u' g xs w n).length<=60:=by
 have:=Xb g xs w n;have:n*xs.length<=3*20:=Nat.mul_le_mul (by omega) ap;omega
theorem aqt(g:b9)(xs:List aq)(n:Nat):sH g xs (n+1)=sH g xs n++[t' (own g xs (n:Nat))]:=by
 simp[sH,List.range_succ]
theorem NG(g:b9)(xs:List aq)(n:Nat):(sH g xs n).length=n:=by simp[sH]
theorem aqu{α:Type}{f:α->List D}{x:α}{m:Nat}:(List.replicate m x).map f++[f x]=(List.replicate (m+1) x).map f:=by
 rw[List.replicate_succ',fQ];rfl
theorem Xd(cap:Int):al 126 [.one (I cap)] [.agg (rD cap).e]:=aqp ⟨Fq cap 1 4,aa⟩
theorem Xe(xs:List aq)(ap:xs.length<=1000):al 124 [.one (.J 5 (xs.map aq.e))] [.agg (t' xs).e]:=
 aqq ⟨nl (by simp;omega),kX (by simp;omega),ch _ aq.flat _,by omega,by omega,by decide,by omega,by omega,by omega,by decide,by omega,by omega,by omega,by decide,by omega,aa⟩
theorem aqv(g:b9)(xs:List aq)(w:Int)(aX:1<=g.az/\g.az<=4)(ap:xs.length<=20):al 125 [.agg g.e,.one (.J 5 (xs.map aq.e)),.one (I w)] [.one (.J 5 ((own g xs w).map aq.e))]:=by
 have gr:=fun (e:Nat) (he:e<4) (acc:List aq) (ak:acc.length<=100)=>fC (P:=prog) (c:=(ar f125 1)) (cH 2) xs.length (fun i:Nat=>tY (g.nodes.map Node.e) g.az g.cap (xs.map aq.e) w e i ((acc++(xs.take i).filter fun r=>r.bq.bd==(e:Int)&&jK r.key g.az==w).map aq.e)) (fun i hi=>by
  obtain⟨r,aA⟩:=c9 hi;have b2:((xs.take i).filter fun r=>r.bq.bd==(e:Int)&&jK r.key g.az==w).length<=20:=by
   have:=qw (fun r:aq=>r.bq.bd==(e:Int)&&jK r.key g.az==w) (xs.take i);have:=NY i xs;omega
  rw[zj _ aA];generalize (xs.take i).filter (fun r=>r.bq.bd==(e:Int)&&jK r.key g.az==w)=eU at*;have qb:=U7 r.key g.az (by omega);cases h1:(r.bq.bd==(e:Int)) with
  | false=>
   rw[Bool.false_and,bk (by decide),kE];exact aqk ⟨b5 hi,bD,bK hi,bE aq.e aA,h1,dj hi (by omega),aa⟩
  | true=>
   cases U:(jK r.key g.az==w) with
   | false=>
    rw[Bool.and_false,bk (by decide),kE];exact aqj ⟨b5 hi,bD,bK hi,bE aq.e aA,h1,bD,bK hi,bE aq.e aA,qb,U,dj hi (by omega),aa⟩
   | true=>
    rw[wb,bm rfl,<-oM,NU];exact aqi ⟨b5 hi,bD,bK hi,bE aq.e aA,h1,bD,bK hi,bE aq.e aA,qb,U,bD,bK hi,bE aq.e aA,by simp;omega,by simp;omega,dD (aq.flat r),dj hi (by omega),aa⟩) (aql ⟨dT,aa⟩)
 have ea:=fC (P:=prog) (c:=(ar f125 0)) (cH 0) 4 (fun n:Nat=>Cn (g.nodes.map Node.e) g.az g.cap (xs.map aq.e) w n ((u' g xs w n).map aq.e)) (fun n aX=>by
  have:=gr n aX (u' g xs w n) (by have:=aqs (g:=g) ap w aX;omega);rw[k5,List.take_zero,List.filter_nil,kE]at this;rw[aqr];exact aqm ⟨dt (by omega),this,⟨by omega,by omega⟩,aa⟩) (aqn ⟨dQ (by omega),aa⟩)
 exact aqo ⟨ea,aa⟩
theorem NH{g:b9}(h:p9 g xs=false):zS g xs=(Xa,false):=by unfold zS;rw[h];rfl
theorem Xf{g:b9}(h:p9 g xs=true):zS g xs=(oG g xs,true):=by unfold zS;rw[h];rfl
theorem aqw(g:b9)(xs:List aq)(ap:xs.length<=20):
  (xs.any tZ=false/\c5 prog (ar f14 0) (rC (xs.map aq.e) 0 0 0 (g.nodes.map Node.e) g.az g.cap) (.exit 0) (NE (xs.map aq.e) 0 0 (g.nodes.map Node.e) g.az g.cap))\/
  (xs.any tZ=true/\c5 prog (ar f14 0) (rC (xs.map aq.e) 0 0 0 (g.nodes.map Node.e) g.az g.cap) .ret (zQ false 0 0)):=by
 have l:=gN (P:=prog) (c:=(ar f14 0)) xs tZ (fun i=>rC (xs.map aq.e) i 0 0 (g.nodes.map Node.e) g.az g.cap) (e1:=.ret) (e2:=.exit 0) (X:=fun _ _=>zQ false 0 0) e0 (cH 0)
  (fun i a ak h=>by
   simp only[tZ,hG]at h;have hi:=aT ak;exact aq0 ⟨b5 hi,bD,bK hi,bE aq.e ak,tV a,h.1.1,bD,bK hi,bE aq.e ak,h.1.2,bD,bK hi,bE aq.e ak,h.2,dj hi (by omega),aa⟩)
  (fun i a ak h=>by
   have hi:=aT ak;have gq:=tV a;unfold tZ at h;cases h1:(!fE a) with
   | true=>exact aqX ⟨b5 hi,bD,bK hi,bE aq.e ak,gq,h1,aa⟩
   | false=>
    cases U:(a.op != 0) with
    | true=>exact aqY ⟨b5 hi,bD,bK hi,bE aq.e ak,gq,h1,bD,bK hi,bE aq.e ak,U,aa⟩
    | false=>
     rw[h1,U,kF,kF]at h;exact aqZ ⟨b5 hi,bD,bK hi,bE aq.e ak,gq,h1,bD,bK hi,bE aq.e ak,U,bD,bK hi,bE aq.e ak,h,aa⟩)
  (aq1 ⟨dT,aa⟩)
 rcases l with⟨_,_,h1,U⟩ | ⟨i,a,_,_,_,_,h1,U⟩
 ·exact .inl ⟨h1,U⟩
 exact .inr ⟨h1,U⟩
theorem aqx(g:b9)(xs:List aq)(aX:1<=g.az/\g.az<=4)(ap:xs.length<=20):
  c5 prog (ar f14 1) (zR (xs.map aq.e) 0 (g.nodes.map Node.e) g.az g.cap [] [] ((List.replicate 4 G2).map b4.e) 0 0 (g.nodes.map Node.e) g.az g.cap) (.exit 2)
   (NF (g.nodes.map Node.e) g.az g.cap ((sH g xs g.az.toNat).map aP.e) ((List.replicate (g.az.toNat*g.az.toNat) (rD g.cap)).map bw.e) ((List.replicate 4 G2).map b4.e) 0 0):=by
 obtain⟨n,Eo⟩:∃n:Nat,g.az=n:=⟨g.az.toNat,by omega⟩
 have A':n<=4:=by omega
 have mP:=fun (w:Nat) (m:Nat) (W T:List (List D)) (hm:m<=16)=>fC (P:=prog) (c:=(ar f14 2)) (cH 4) n (fun k:Nat=>Cm (xs.map aq.e) w k (g.nodes.map Node.e) g.az g.cap W ((List.replicate (m+k) (rD g.cap)).map bw.e) T 0 0 (g.nodes.map Node.e) g.az g.cap) (fun k hk=>by
  rw[<-wc,<-aqu];exact aq3 ⟨dt (by omega),Xd g.cap,by simp;omega,by simp;omega,⟨by omega,by omega⟩,aa⟩) (aqe ⟨dQ (by omega),aa⟩)
 have gr:=fC (P:=prog) (c:=(ar f14 1)) (cH 2) n (fun w:Nat=>zR (xs.map aq.e) w (g.nodes.map Node.e) g.az g.cap ((sH g xs w).map aP.e) ((List.replicate (w*n) (rD g.cap)).map bw.e) ((List.replicate 4 G2).map b4.e) 0 0 (g.nodes.map Node.e) g.az g.cap) (fun w hw=>by
  have Br:=NG g xs w;have hm:w*n<=3*4:=Nat.mul_le_mul (by omega) A';rw[aqt,NU,show (w+1)*n=w*n+n by rw[gg,Nat.one_mul]];exact aqf ⟨dt (by omega),aqv g xs w aX ap,Xe _ (by have:=Xc (g:=g) ap (w:Nat);omega),by simp[Br];omega,by simp[Br];omega,mP w (w*n) _ _ (by omega),⟨by omega,by omega⟩,aa⟩) (aqg ⟨dQ (by omega),aa⟩)
 rw[show ((0:Nat)*n)=0 by omega]at gr;rw[Eo,k7];rw[Eo]at gr;exact gr
theorem aqy(g:b9)(xs:List aq)(ay:g.sz<=8388608):al 14 [.agg g.e,.one (.J 5 (xs.map aq.e))] [.agg (zS g xs).1.e,.one (B (zS g xs).2)]:=by
 have yo:=y1 g ay;cases h1:eM g with
 | false=>
  rw[h1]at yo;rw[NH (by unfold p9;rw[h1];rfl)];exact aqV ⟨yo,rfl,aa⟩
 | true=>
 rw[h1]at yo;by_cases ap:xs.length<=20
 case neg=>
  rw[NH (by unfold p9;rw[lQ ap,Bool.and_false];rfl)];exact aqW ⟨yo,rfl,dt (by simp;omega),aa⟩
 rcases aqw g xs ap with⟨U,l⟩ | ⟨U,l⟩
 ·rw[Xf (by unfold p9;rw[h1,U,jj ap];rfl)];exact aqh ⟨yo,rfl,dQ (by simp;omega),l,W3 g ay,by omega,by omega,by decide,by omega,aqx g xs (mZ h1) ap,aa⟩
 rw[NH (by unfold p9;rw[U];simp)];exact aq2 ⟨yo,rfl,dQ (by simp;omega),l,aa⟩
end Go.Proofs.YtdchjefneblpgaaGreat
namespace Go.Proofs.YtdchjefneblpgaaGreat
open Go.Sx Go.RowKit Go.Proofs.Tryz
def gJ(n:Int):List D:=[.v (.int .u8 n)]
structure dG where
 i:Int
 h:Int
def dG.e(b:List Int)(c:dG):List D:=[.J 1 (b.map gJ),I c.i,I c.h]
def Bytes(b:List Int):Prop:=b.length<=8388608/\∀x∈b,0<=x/\x<=255
def dG.ok(b:List Int)(c:dG):Prop:=Bytes b/\0<=c.i/\c.i<=b.length
theorem aBH{P:Program}{t:TypeId}{ds:List D}(hu:P.underlying t=some (.int .u8))(h:kH P t ds):∃n,ds=gJ n/\0<=n/\n<=255:=by
 have U:∃n,ds=[.v (.int .u8 n)]/\(Lit.int .u8 n).wf=true:=by cases h<;>simp_all
 obtain⟨n,e,hw⟩:=U;refine⟨n,e,?_⟩;simp[Lit.wf]at hw;have ax:IntKind.u8.min=0:=rfl;rw[ax]at hw;exact hw
theorem aqz:prog.cellsOf 5=1:=by kernel_rfl
theorem aqA{ds:List D}(h:kH prog 22 ds):∃xs:List Int,ds=[.J 1 (xs.map gJ)]/\(xs.length:Int)<=9223372036854775807/\∀a∈xs,(fun n=>0<=n/\n<=255) a:=
 aw9 gJ (fun n=>0<=n/\n<=255) Tryz.underlying22 aqz (fun ds h=>aBH Tryz.underlying5 h) h
theorem aqB{cm:cQ}(h:DP prog 22 cm):∃xs:List Int,cm=.one (.J 1 (xs.map gJ))/\(xs.length:Int)<=9223372036854775807/\∀a∈xs,(fun n=>0<=n/\n<=255) a:=by
 cases cm with
 | agg ds=>have:=h.2;simp[s0,Tryz.underlying22]at this
 | one d=>
  obtain⟨x,e,ah⟩:=aqA h.1;obtain rfl:=(aaN e).1;exact⟨x,rfl,ah⟩
theorem Xg{P:Program}(a:Int)(n:Nat):∃m:Int,∀t x y,na P .shr t x y (.int .i64 a) (.int .u64 (n:Int)) (.int .i64 m):=⟨_,fun _ _ _=>ant⟩
theorem aqC{P:Program}(a b:Int):∃m:Int,∀t x y,na P .xor t x y (.int .i64 a) (.int .i64 b) (.int .i64 m):=⟨_,fun _ _ _=>anu⟩
theorem NI{P:Program}(a:Int)(k:Nat)(hk:k<2 ^ 62):∃m:Int,(0<=m/\m<=k)/\∀t x y,na P .and t x y (.int .i64 a) (.int .i64 (k:Int)) (.int .i64 m):=⟨_,anw a k hk,fun _ _ _=>anv⟩
theorem Xh(b:List Int)(av:Bytes b):∀(n i:Nat) (h:Int),i+n=b.length->0<=h/\h<=1073741823->∃km,c5 prog (ar f117 0) (zJ (b.map gJ) i h) (.exit 0) (GD (b.map gJ) km)
 | 0,i,h,hi,bJ=>⟨h,.last (cH 0) (anA ⟨by rw[lp,bl];omega,aa⟩)⟩
 | n+1,i,h,hi,bJ=>by
  have ap:=av.1;obtain⟨x,ah⟩:=c9 (xs:=b) (i:=i) (by omega);have av:=av.2 x (eD ah);by_cases aF:(i:Int)<4000
  ·obtain⟨m,hm,r⟩:=NI (P:=prog) (h*131+x+7) 1073741823 (by decide);obtain⟨km,l⟩:=Xh b ‹Bytes b› n (i+1) m (by omega) hm;exact⟨km,.more (anx ⟨b5 (by omega),jj aF,⟨by omega,by omega⟩,bD,bK (by omega),bE gJ ah,⟨by omega,by omega⟩,⟨by omega,by omega⟩,⟨by omega,by omega⟩,r _ _ _,⟨by omega,by omega⟩,aa⟩) l⟩
  exact⟨h,.last (cH 0) (anz ⟨b5 (by omega),lQ aF,aa⟩)⟩
theorem GN(b:List Int)(av:Bytes b):∃c:dG,c.ok b/\bW prog 117 [.ro (.one (.J 1 (b.map gJ)))] (.iX [some 0,none,none] (c.e b)):=by
 have ap:=av.1;obtain⟨km,l⟩:=Xh b av b.length 0 (94701+(↑(b.map gJ).length:Int)) (by omega) ⟨by omega,by simp;omega⟩;exact⟨⟨0,km⟩,⟨av,by dsimp only;omega,by dsimp only;omega⟩,anB ⟨⟨by omega,by simp;omega⟩,l,aa⟩⟩
theorem Ga(b:List Int)(c:dG)(aj:c.ok b):∃(d:dG) (n:Int),d.ok b/\(0<=n/\n<=255)/\bW prog 253 [.cur (c.e b) (d.e b)] (.vals [.one (I n)]):=by
 obtain⟨⟨h1,U⟩,ax,aF⟩:=aj;obtain⟨gF,cb⟩:=Xg (P:=prog) (IntKind.i64.wrap (IntKind.i64.wrap (c.h*6364136223846793005)+1442695040888963407)) 33;obtain⟨ju,eE⟩:=Xg (P:=prog) (IntKind.i64.wrap (IntKind.i64.wrap (c.h*6364136223846793005)+1442695040888963407)) 45;obtain⟨kv,k2⟩:=aqC (P:=prog) gF ju;obtain⟨n6,m6,pD⟩:=NI (P:=prog) kv 255 (by decide);by_cases hi:c.i<b.length
 ·obtain⟨x,ah⟩:=c9 (xs:=b) (i:=c.i.toNat) (by omega);have av:=U x (eD ah);obtain⟨n8,m8,aBo⟩:=NI (P:=prog) (IntKind.i64.wrap (n6+IntKind.i64.wrap x)) 255 (by decide);exact⟨⟨c.i+1,IntKind.i64.wrap (IntKind.i64.wrap (c.h*6364136223846793005)+1442695040888963407)⟩,n8,⟨⟨h1,U⟩,by dsimp only;omega,by dsimp only;omega⟩,m8,anC ⟨cb _ _ _,eE _ _ _,k2 _ _ _,pD _ _ _,by rw[cV,bl];exact hi,ax,by rw[bl];exact hi,by rw[dq,ah];rfl,aBo _ _ _,⟨by omega,by omega⟩,aa⟩⟩
 exact⟨⟨c.i,IntKind.i64.wrap (IntKind.i64.wrap (c.h*6364136223846793005)+1442695040888963407)⟩,n6,⟨⟨h1,U⟩,ax,aF⟩,m6,am0 ⟨cb _ _ _,eE _ _ _,k2 _ _ _,pD _ _ _,by rw[lp,bl];exact hi,aa⟩⟩
theorem eb(b:List Int)(c:dG)(k:Int)(aj:c.ok b)(hk:1<=k/\k<=1000000):∃(d:dG) (n:Int),d.ok b/\(0<=n/\n<k)/\bW prog 138 [.cur (c.e b) (d.e b),.ro (.one (I k))] (.vals [.one (I n)]):=by
 have md:∀m:Int,0<=m->0<=m.tmod k/\m.tmod k<k:=fun m hm=>⟨Int.tmod_nonneg _ hm,Int.tmod_lt_of_pos m (by omega)⟩
 obtain⟨d1,eZ,ci,eC,bF⟩:=Ga b c aj;by_cases h:k<=256
 ·exact⟨d1,_,ci,md eZ eC.1,am1 ⟨lQ (by omega),jj h,bF,by omega,aa⟩⟩
 obtain⟨d2,ga,b6,fG,bQ⟩:=Ga b d1 ci;obtain⟨d3,gF,ct,s4,cb⟩:=Ga b d2 b6;obtain⟨d4,ju,fB,wo,eE⟩:=Ga b d3 ct;exact⟨d4,_,fB,md _ (by omega),am2 ⟨lQ (by omega),lQ h,bF,bQ,cb,eE,⟨by omega,by omega⟩,⟨by omega,by omega⟩,⟨by omega,by omega⟩,⟨by omega,by omega⟩,⟨by omega,by omega⟩,⟨by omega,by omega⟩,by omega,aa⟩⟩
theorem xT(b:List Int)(c:dG)(k:Int)(aj:c.ok b)(hk:1<=k/\k<=1000000):∃(d:dG) (x:Bool),d.ok b/\bW prog 136 [.cur (c.e b) (d.e b),.ro (.one (I k))] (.vals [.one (B x)]):=by
 obtain⟨d,n,o,_,r⟩:=eb b c k aj hk;exact⟨d,_,o,am3 ⟨r,aa⟩⟩
theorem l5(b:List Int)(c:dG)(xs:List Int)(aj:c.ok b)(hk:1<=xs.length/\xs.length<=1000):∃(d:dG) (n:Int),d.ok b/\n∈xs/\bW prog 140 [.cur (c.e b) (d.e b),.ro (.one (.J 1 (xs.map bh)))] (.vals [.one (I n)]):=by
 obtain⟨d,n,o,av,r⟩:=eb b c (xs.length:Int) aj (by omega);obtain⟨x,ah⟩:=c9 (xs:=xs) (i:=n.toNat) (by omega);refine⟨d,x,o,eD ah,am4 ⟨?_,av.1,by rw[bl];exact av.2,by rw[dq,ah];rfl,aa⟩⟩;rw[bl];exact r
end Go.Proofs.YtdchjefneblpgaaGreat
namespace Go.Proofs.YtdchjefneblpgaaGreat
open Go.Sx Go.RowKit Go.Proofs.Tryz
def Input(r:aq):Prop:=r.op=0/\r.bq.dC=0/\(0<=r.bq.bd/\r.bq.bd<=2)/\(0<=r.key/\r.key<12)/\(0<=r.val/\r.val<40)
theorem Xi(b:List Int):∀(n i:Nat) (e:Int) (xs:List aq) (c:dG),i+n=5->c.ok b->(0<=e/\e<=2)->xs.length<=i->(∀r∈xs,Input r)->
  ∃(ys:List aq) (d:dG),d.ok b/\ys.length<=5/\(∀r∈ys,Input r)/\c5 prog (ar f119 0) (CP (b.map gJ) i e (xs.map aq.e) c.i c.h) (.exit 0) (Nr (b.map gJ) (ys.map aq.e) d.i d.h)
 | n,i,e,xs,c,lz,aj,he,ap,ah=>by
  obtain⟨d1,m,ci,av,bF⟩:=eb b c 6 aj (by omega);by_cases h:(i:Int)<m
  ·match n with
   | 0=>omega
   | n+1=>
    obtain⟨d2,a,b6,ak,bQ⟩:=eb b d1 2 ci (by omega);obtain⟨d3,k,ct,hk,cb⟩:=eb b d2 12 b6 (by omega);obtain⟨d4,v,fB,bp,eE⟩:=eb b d3 40 ct (by omega);have pN:=Fq (e+a) 0 2;have Q6:0<=iZ (e+a) 0 2/\iZ (e+a) 0 2<=2:=by
     unfold iZ;simp only[show ¬(2:Int)<0 by omega,lP];split<;>(try split)<;>omega
    obtain⟨ys,d,o,eF,eV,l⟩:=Xi b n (i+1) (iZ (e+a) 0 2) (xs++[⟨0,⟨iZ (e+a) 0 2,0⟩,k,v⟩]) d4 (by omega) fB Q6 (by simp;omega) (fun r aA=>by
     rcases ki.1 aA with aA | aA
     ·exact ah r aA
     rw[List.mem_singleton]at aA;subst aA;exact⟨rfl,rfl,Q6,hk,bp⟩)
    refine⟨ys,d,o,eF,eV,.more ?_ l⟩;rw[fQ];exact aoi ⟨bF,jj h,bQ,⟨by omega,by omega⟩,pN,cb,eE,by simp;omega,by simp;omega,dD (fun d aG=>by simp only[eP,nZ,or_false]at aG;rcases aG with rfl | rfl | rfl | rfl | rfl<;>exact⟨_,rfl⟩),⟨by omega,by omega⟩,aa⟩
  exact⟨xs,d1,ci,by omega,ah,.last (cH 0) (aoj ⟨bF,lQ h,aa⟩)⟩
theorem Xj(b:List Int)(c:dG)(aj:c.ok b):∃(d:dG) (xs:List aq),d.ok b/\xs.length<=5/\(∀r∈xs,Input r)/\bW prog 119 [.cur (c.e b) (d.e b)] (.vals [.one (.J 5 (xs.map aq.e))]):=by
 obtain⟨ys,d,o,eF,eV,l⟩:=Xi b 5 0 0 [] c rfl aj (by omega) (by simp) (by simp);exact⟨d,ys,o,eF,eV,aok ⟨l,aa⟩⟩
end Go.Proofs.YtdchjefneblpgaaGreat
namespace Go.Proofs.YtdchjefneblpgaaGreat
open Go.Sx Go.RowKit Go.Proofs.Tryz
def zT(k a b:Int):List Node:=[⟨1,0,0,[1]⟩,⟨k,0,0,[2,5]⟩,⟨4,1+a,0,[3]⟩,⟨2,b,0,[4]⟩,⟨7,0,0,[1]⟩,⟨8,0,0,[]⟩]
def qm(k a b c:Int):Nat->List Node
 | 0=>(zT k a b).set 3 ⟨3,1+c,0,[4]⟩
 | 1=>(zT k a b).set 4 ⟨8,0,0,[]⟩
 | 2=>(zT k a b).set 2 ⟨4,1+a,0,[3,4]⟩
 | 3=>(zT k a b++[(⟨8,0,0,[]⟩:Node)]).set 0 ⟨1,0,0,[1,6]⟩
 | _=>zT k a b
structure nq (g:b9):Prop where
 nodes:∃(k a b c:Int) (v:Nat),(k=5\/k=6)/\(0<=a/\a<3)/\(0<=b/\b<4)/\(0<=c/\c<3)/\v<=4/\g.nodes=qm k a b c v
 az:1<=g.az/\g.az<=3
 cap:1<=g.cap/\g.cap<=3
theorem nq.ok{g:b9}(h:nq g):eM g=true:=by
 obtain⟨⟨k,a,b,c,v,hk,ak,av,aj,bp,aX⟩,hw,gA⟩:=h;obtain⟨nodes,az,cap⟩:=g;simp only at aX hw gA;have abb:a=0\/a=1\/a=2:=by omega
 have abd:b=0\/b=1\/b=2\/b=3:=by omega
 have abe:c=0\/c=1\/c=2:=by omega
 have br:v=0\/v=1\/v=2\/v=3\/v=4:=by omega
 have aCt:az=1\/az=2\/az=3:=by omega
 have cP:cap=1\/cap=2\/cap=3:=by omega
 have key:∀k∈[(5:Int),6],∀a∈[(0:Int),1,2],∀b∈[(0:Int),1,2,3],∀c∈[(0:Int),1,2],∀v∈[0,1,2,3,4],(!(anyI (kc ⟨qm k a b c v,1,1⟩) 0 (qm k a b c v))&&decide ((qm k a b c v).length<=7)&&decide (1<=(qm k a b c v).length))=true:=by decide +kernel
 have:=key k (by rcases hk with h | h<;>simp[h]) a (by rcases abb with h | h | h<;>simp[h]) b (by rcases abd with h | h | h | h<;>simp[h]) c (by rcases abe with h | h | h<;>simp[h]) v (by rcases br with h | h | h | h | h<;>simp[h]);simp only[cx,cV]at this;obtain⟨⟨h1,U⟩,ax⟩:=this;subst aX;have acJ:kc ⟨qm k a b c v,az,cap⟩=kc ⟨qm k a b c v,1,1⟩:=rfl;unfold eM;simp only[cx];rw[acJ];refine⟨⟨⟨?_,?_⟩,?_⟩,h1⟩
 ·simp only[aw,cx,cV];omega
 ·simp only[aw,cx,cV];omega
 simp only[aw,cx,cV];omega
theorem Xk(b:List Int)(c:dG)(aj:c.ok b):∃(d:dG) (g:b9),d.ok b/\nq g/\bW prog 118 [.cur (c.e b) (d.e b)] (.vals [.agg g.e]):=by
 obtain⟨d1,eZ,ci,h1,bF⟩:=eb b c 3 aj (by omega);obtain⟨d2,ga,b6,U,bQ⟩:=eb b d1 3 ci (by omega);obtain⟨d3,x,ct,cb⟩:=xT b d2 3 b6 (by omega);obtain⟨d4,ju,fB,aF,eE⟩:=eb b d3 3 ct (by omega);obtain⟨d5,kv,tC,aZ,k2⟩:=eb b d4 4 fB (by omega);obtain⟨d6,n6,adK,bB,pD⟩:=eb b d5 3 tC (by omega);obtain⟨d7,n7,adL,bS,sL⟩:=eb b d6 6 adK (by omega);have i1:aD .i64 (1+eZ):=⟨by omega,by omega⟩
 have i2:aD .i64 (1+ga):=⟨by omega,by omega⟩
 have i4:aD .i64 (1+ju):=⟨by omega,by omega⟩
 have i6:aD .i64 (1+n6):=⟨by omega,by omega⟩
 have fin:∀(k:Int) (v:Nat) {ds:List (List D)},(k=5\/k=6)->v<=4->nr ds ((qm k ju kv n6 v).map Node.e)->bW prog 118 [.cur (c.e b) (d7.e b)] (.vals [.agg [.J 4 ds,I (1+eZ),I (1+ga)]])->
   ∃(d:dG) (g:b9),d.ok b/\nq g/\bW prog 118 [.cur (c.e b) (d.e b)] (.vals [.agg g.e]):=by
  intro k v ds hk bp b2 aA;exact⟨d7,⟨qm k ju kv n6 v,1+eZ,1+ga⟩,adL,⟨⟨k,ju,kv,n6,v,hk,aF,aZ,bB,bp,rfl⟩,by dsimp only;omega,by dsimp only;omega⟩,
   aA.fit (.cons (.agg (.cons (.J 4 b2) (lq.refl _))) .nil)⟩
 have f1:∀d,Fit d d:=.refl;by_cases bu:n7=0
 ·cases x
  ·exact fin 5 0 (.inl rfl) (by omega) (by repeat (first | exact .refl _ | constructor)) (aoS ⟨bF,i1,bQ,i2,cb,rfl,eE,i4,k2,pD,i6,sL,by simp[bu],by omega,by simp,rfl,aa⟩)
  exact fin 6 0 (.inr rfl) (by omega) (by repeat (first | exact .refl _ | constructor)) (aoN ⟨bF,i1,bQ,i2,cb,rfl,eE,i4,k2,pD,i6,sL,by simp[bu],by omega,by simp,rfl,aa⟩)
 by_cases e1:n7=1
 ·cases x
  ·exact fin 5 1 (.inl rfl) (by omega) (by repeat (first | exact .refl _ | constructor)) (aoT ⟨bF,i1,bQ,i2,cb,rfl,eE,i4,k2,pD,i6,sL,by simp[bu],by simp[e1],by omega,by simp,rfl,aa⟩)
  exact fin 6 1 (.inr rfl) (by omega) (by repeat (first | exact .refl _ | constructor)) (aoO ⟨bF,i1,bQ,i2,cb,rfl,eE,i4,k2,pD,i6,sL,by simp[bu],by simp[e1],by omega,by simp,rfl,aa⟩)
 by_cases e2:n7=2
 ·cases x
  ·exact fin 5 2 (.inl rfl) (by omega) (by repeat (first | exact .refl _ | constructor)) (aoU ⟨bF,i1,bQ,i2,cb,rfl,eE,i4,k2,pD,i6,sL,by simp[bu],by simp[e1],by simp[e2],by omega,by simp,rfl,aa⟩)
  exact fin 6 2 (.inr rfl) (by omega) (by repeat (first | exact .refl _ | constructor)) (aoP ⟨bF,i1,bQ,i2,cb,rfl,eE,i4,k2,pD,i6,sL,by simp[bu],by simp[e1],by simp[e2],by omega,by simp,rfl,aa⟩)
 by_cases cg:n7=3
 ·cases x
  ·exact fin 5 3 (.inl rfl) (by omega) (by repeat (first | exact .refl _ | constructor)) (aoV ⟨bF,i1,bQ,i2,cb,rfl,eE,i4,k2,pD,i6,sL,by simp[bu],by simp[e1],by simp[e2],by simp[cg],by simp,by simp,by omega,by simp,rfl,aa⟩)
  exact fin 6 3 (.inr rfl) (by omega) (by repeat (first | exact .refl _ | constructor)) (aoQ ⟨bF,i1,bQ,i2,cb,rfl,eE,i4,k2,pD,i6,sL,by simp[bu],by simp[e1],by simp[e2],by simp[cg],by simp,by simp,by omega,by simp,rfl,aa⟩)
 cases x
 ·exact fin 5 4 (.inl rfl) (by omega) (by repeat (first | exact .refl _ | constructor)) (aoW ⟨bF,i1,bQ,i2,cb,rfl,eE,i4,k2,pD,i6,sL,by simp[bu],by simp[e1],by simp[e2],by simp[cg],aa⟩)
 exact fin 6 4 (.inr rfl) (by omega) (by repeat (first | exact .refl _ | constructor)) (aoR ⟨bF,i1,bQ,i2,cb,rfl,eE,i4,k2,pD,i6,sL,by simp[bu],by simp[e1],by simp[e2],by simp[cg],aa⟩)
def Gb(p:cN):Prop:=(1<=p.kind/\p.kind<=7)/\(0<=p.a/\p.a<3)/\(0<=p.b/\p.b<3)
theorem Xl(b:List Int)(c:dG)(aj:c.ok b):∃(d:dG) (p:cN),d.ok b/\Gb p/\bW prog 242 [.cur (c.e b) (d.e b)] (.vals [.agg p.e]):=by
 obtain⟨d1,k,ci,h1,bF⟩:=l5 b c [1,1,1,2,3,3,3,4,4,5,6,6,7] aj (by simp);obtain⟨d2,a,b6,U,bQ⟩:=eb b d1 3 ci (by omega);have hk:1<=k/\k<=7:=by
  simp only[eP,nZ,or_false]at h1;omega
 by_cases eo:k=4
 ·obtain⟨d3,m,ct,ax,cb⟩:=eb b d2 2 b6 (by omega);have mO:aD .i64 (a+1):=⟨by omega,by omega⟩
  have se:aD .i64 (a+1+m):=⟨by omega,by omega⟩
  exact⟨d3,⟨k,a,(a+1+m).tmod 3⟩,ct,⟨hk,U,Int.tmod_nonneg _ (by omega),Int.tmod_lt_of_pos _ (by omega)⟩,aom ⟨bF,bQ,by simp[eo],aol ⟨mO,cb,se,by decide,aa⟩,aa⟩⟩
 by_cases h9:k=5
 ·obtain⟨d3,m,ct,ax,cb⟩:=eb b d2 2 b6 (by omega);have mO:aD .i64 (a+1):=⟨by omega,by omega⟩
  have se:aD .i64 (a+1+m):=⟨by omega,by omega⟩
  exact⟨d3,⟨k,a,(a+1+m).tmod 3⟩,ct,⟨hk,U,Int.tmod_nonneg _ (by omega),Int.tmod_lt_of_pos _ (by omega)⟩,aoo ⟨bF,bQ,by simp[eo],by simp[h9],aon ⟨mO,cb,se,by decide,aa⟩,aa⟩⟩
 exact⟨d2,⟨k,a,0⟩,b6,⟨hk,U,by dsimp only;omega⟩,aop ⟨bF,bQ,by simp[eo],by simp[h9],aa⟩⟩
theorem abl(p:cN):Flat [p.e]:=dD fun d aG=>by
 simp only[cN.e,eP,nZ,or_false]at aG;rcases aG with rfl | rfl | rfl<;>exact⟨_,rfl⟩
theorem WM(b:List Int)(m:Nat)(hm:m<=1000):∀(n i:Nat) (xs:List cN) (c:dG),i+n=m+1->c.ok b->xs.length<=i->(∀p∈xs,Gb p)->
  ∃(ys:List cN) (d:dG),d.ok b/\ys.length<=m+1/\(∀p∈ys,Gb p)/\c5 prog (ar f120 0) (CQ (b.map gJ) m i (xs.map cN.e) c.i c.h) (.exit 0) (Nw (b.map gJ) (ys.map cN.e) d.i d.h)
 | n,i,xs,c,lz,aj,ap,ah=>by
  obtain⟨d1,k,ci,hk,bF⟩:=eb b c ((m:Int)+1) aj (by omega);by_cases h:(i:Int)<k
  ·match n with
   | 0=>omega
   | n+1=>
    obtain⟨d2,p,b6,hp,bQ⟩:=Xl b d1 ci;obtain⟨ys,d,o,eF,eV,l⟩:=WM b m hm n (i+1) (xs++[p]) d2 (by omega) b6 (by simp;omega) (fun z bi=>by
     rcases ki.1 bi with bi | bi
     ·exact ah z bi
     rw[List.mem_singleton]at bi;subst bi;exact hp)
    refine⟨ys,d,o,eF,eV,.more ?_ l⟩;rw[fQ];exact aoq ⟨⟨by omega,by omega⟩,bF,jj h,bQ,by simp;omega,by simp;omega,abl p,⟨by omega,by omega⟩,aa⟩
  exact⟨xs,d1,ci,by omega,ah,.last (cH 0) (aor ⟨⟨by omega,by omega⟩,bF,lQ h,aa⟩)⟩
theorem aqD(b:List Int)(c:dG)(m:Nat)(hm:m<=1000)(aj:c.ok b):∃(d:dG) (cr:List cN),d.ok b/\cr.length<=m+1/\(∀p∈cr,Gb p)/\bW prog 120 [.cur (c.e b) (d.e b),.ro (.one (I m))] (.vals [.one (.J 3 (cr.map cN.e))]):=by
 obtain⟨ys,d,o,eF,eV,l⟩:=WM b m hm (m+1) 0 [] c (by omega) aj (by simp) (by simp);exact⟨d,ys,o,eF,eV,aos ⟨l,aa⟩⟩
end Go.Proofs.YtdchjefneblpgaaGreat
namespace Go.Proofs.YtdchjefneblpgaaGreat
open Go.Sx Go.RowKit Go.Proofs.Tryz
theorem NJ{α:Type}{f:α->Nat}{k:Nat}:∀{xs:List α},(∀x∈xs,f x<=k)->(xs.map f).sum<=xs.length*k
 | [],_=>by simp
 | a::xs,h=>by
  have h1:=h a (by simp);have U:=NJ (f:=f) (k:=k) (xs:=xs) (fun x ah=>h x (by simp[ah]));simp only[l',we,eh,gg,Nat.one_mul];omega
theorem NK{g:b9}{xs:List aq}:p9 g xs=true<->eM g=true/\xs.length<=20/\xs.any tZ=false:=by
 simp only[p9,cx,cV,gT,and_assoc]
theorem ap4{g:b9}{xs:List aq}(h:p9 g xs=true):(oG g xs).sz<=g.sz+1000:=by
 obtain⟨h1,U,_⟩:=NK.1 h;have aX:=mZ h1;obtain⟨n,Eo⟩:∃n:Nat,g.az=n:=⟨g.az.toNat,by omega⟩
 have a:=NJ (f:=aP.sz) (k:=92) (xs:=sH g xs n) (fun x ah=>by
  simp only[sH,lo]at ah;obtain⟨w,_,rfl⟩:=ah;have:=Xc (g:=g) U (w:Nat);simp only[t',aP.sz,b7,List.length_replicate];omega)
 have b:=NJ (f:=bw.sz) (k:=0) (xs:=List.replicate (n*n) (rD g.cap)) (fun x ah=>by
  rw[List.eq_of_mem_replicate ah];simp[rD,bw.sz])
 have hm:n*n<=4*4:=Nat.mul_le_mul (by omega) (by omega);simp only[oG,a'.sz,fs,Eo,k7,List.length_replicate,b7,NG]at a b ⊢;omega
theorem ap5(g:b9)(xs:List aq):gl (oG g xs):=by
 intro l ap;have:=List.eq_of_mem_replicate ap;subst this;simp[rD]
end Go.Proofs.YtdchjefneblpgaaGreat
namespace Go.Proofs.YtdchjefneblpgaaGreat
open Go.Sx Go.RowKit Go.Proofs.Tryz
theorem nq.size{g:b9}(h:nq g):g.sz<=100:=by
 obtain⟨⟨k,a,b,c,v,hk,ak,av,aj,bp,aX⟩,hw,gA⟩:=h;obtain⟨nodes,az,cap⟩:=g;simp only at aX;subst aX;have e:(⟨qm k a b c v,az,cap⟩:b9).sz=fs Node.sz (qm k a b c v):=rfl;rw[e];have br:v=0\/v=1\/v=2\/v=3\/v=4:=by omega
 rcases br with rfl | rfl | rfl | rfl | rfl<;>simp[fs,qm,zT,Node.sz]
theorem Input.abi{r:aq}(h:Input r):tZ r=false:=by
 obtain⟨h1,U,ax,aF,aZ⟩:=h;have ok:fE r=true:=by
  simp only[fE,iw,fD,aw,cx,cV,h1,U];omega
 simp[tZ,ok,h1,U]
theorem ap6{g:b9}{xs:List aq}(ay:nq g)(ap:xs.length<=6)(ah:∀r∈xs,Input r):p9 g xs=true:=
 NK.2 ⟨ay.ok,by omega,ik.2 fun r aA=>by simp[(ah r aA).abi]⟩
end Go.Proofs.YtdchjefneblpgaaGreat
namespace Go.Proofs.YtdchjefneblpgaaGreat
open Go.Sx Go.RowKit Go.Proofs.Tryz
def Fair(r:aq):Prop:=(0<=r.op/\r.op<5)/\(0<=r.bq.bd/\r.bq.bd<4)/\(0<=r.bq.dC/\r.bq.dC<5)/\(0<=r.key/\r.key<12)/\(0<=r.val/\r.val<40)
theorem wT{n:Int}(h1:-9223372036854775808<=n)(U:n<=9223372036854775807):aD .i64 n:=⟨h1,U⟩
theorem Fair.wf{r:aq}(h:Fair r):r.wf:=by
 obtain⟨h1,U,ax,aF,aZ⟩:=h;exact⟨wT (by omega) (by omega),⟨wT (by omega) (by omega),wT (by omega) (by omega)⟩,wT (by omega) (by omega),wT (by omega) (by omega)⟩
theorem WN(b:List Int)(c:dG)(aj:c.ok b):∃(d:dG) (s:gz),d.ok b/\((0<=s.bd/\s.bd<4)/\(0<=s.dC/\s.dC<5))/\bW prog 325 [.cur (c.e b) (d.e b)] (.vals [.agg s.e]):=by
 obtain⟨d1,x,ci,h1,bF⟩:=eb b c 4 aj (by omega);obtain⟨d2,y,b6,U,bQ⟩:=eb b d1 5 ci (by omega);exact⟨d2,⟨x,y⟩,b6,⟨h1,U⟩,am5 ⟨bF,bQ,aa⟩⟩
theorem Co{n:Int}{xs:List Int}(h:n∈xs)(ah:(xs.all fun x=>decide (-9223372036854775808<=x)&&decide (x<=9223372036854775807))=true):aD .i64 n:=by
 have:=gx.1 ah n h;simp only[cx,cV]at this;exact this
theorem ap7(b:List Int)(c:dG)(aj:c.ok b):∃(d:dG) (s:gz),d.ok b/\s.wf/\bW prog 272 [.cur (c.e b) (d.e b)] (.vals [.agg s.e]):=by
 obtain⟨d1,s,ci,⟨h1,U⟩,bF⟩:=WN b c aj;obtain⟨d2,k,b6,ax,bQ⟩:=eb b d1 10 ci (by omega);have w1:aD .i64 s.bd:=wT (by omega) (by omega);have hE:aD .i64 s.dC:=wT (by omega) (by omega);by_cases bu:k=0
 ·obtain⟨d3,x,ct,aF,cb⟩:=l5 b d2 [-1,3,4,9223372036854775807] b6 (by simp);exact⟨d3,⟨x,s.dC⟩,ct,⟨Co aF (by decide),hE⟩,am6 ⟨bF,bQ,by simp[bu],cb,aa⟩⟩
 by_cases e1:k=1
 ·obtain⟨d3,x,ct,aF,cb⟩:=l5 b d2 [-1,5,6,7,-9223372036854775808] b6 (by simp);exact⟨d3,⟨s.bd,x⟩,ct,⟨w1,Co aF (by decide)⟩,am7 ⟨bF,bQ,by simp[bu],by simp[e1],cb,aa⟩⟩
 exact⟨d2,s,b6,⟨w1,hE⟩,am8 ⟨bF,bQ,by simp[bu],by simp[e1],aa⟩⟩
theorem Gc(b:List Int)(c:dG)(aj:c.ok b):∃(d:dG) (r:aq),d.ok b/\Fair r/\bW prog 271 [.cur (c.e b) (d.e b)] (.vals [.agg r.e]):=by
 obtain⟨d1,x,ci,h1,bF⟩:=eb b c 5 aj (by omega);obtain⟨d2,s,b6,⟨U,ax⟩,bQ⟩:=WN b d1 ci;obtain⟨d3,k,ct,aF,cb⟩:=eb b d2 12 b6 (by omega);obtain⟨d4,v,fB,aZ,eE⟩:=eb b d3 40 ct (by omega);exact⟨d4,⟨x,s,k,v⟩,fB,⟨h1,U,ax,aF,aZ⟩,am9 ⟨bF,bQ,cb,eE,aa⟩⟩
theorem zU(b:List Int)(c:dG)(aj:c.ok b):∃(d:dG) (r:aq),d.ok b/\r.wf/\bW prog 178 [.cur (c.e b) (d.e b)] (.vals [.agg r.e]):=by
 obtain⟨d1,r,ci,aA,bF⟩:=Gc b c aj;obtain⟨w1,hE,O2,O3⟩:=aA.wf;obtain⟨d2,k,b6,ax,bQ⟩:=eb b d1 12 ci (by omega);by_cases bu:k=0
 ·obtain⟨d3,x,ct,aF,cb⟩:=l5 b d2 [-1,7,8] b6 (by simp);exact⟨d3,⟨x,r.bq,r.key,r.val⟩,ct,⟨Co aF (by decide),hE,O2,O3⟩,aoD ⟨bF,bQ,by simp[bu],cb,aa⟩⟩
 by_cases e1:k=1
 ·obtain⟨d3,s,ct,aF,cb⟩:=ap7 b d2 b6;exact⟨d3,⟨r.op,s,r.key,r.val⟩,ct,⟨w1,aF,O2,O3⟩,aoE ⟨bF,bQ,by simp[bu],by simp[e1],cb,aa⟩⟩
 by_cases e2:k=2
 ·obtain⟨d3,x,ct,aF,cb⟩:=l5 b d2 [-1,99,100,-9223372036854775808] b6 (by simp);exact⟨d3,⟨r.op,r.bq,x,r.val⟩,ct,⟨w1,hE,Co aF (by decide),O3⟩,aoF ⟨bF,bQ,by simp[bu],by simp[e1],by simp[e2],cb,aa⟩⟩
 by_cases cg:k=3
 ·obtain⟨d3,x,ct,aF,cb⟩:=l5 b d2 [-1,999,1000,9223372036854775807] b6 (by simp);exact⟨d3,⟨r.op,r.bq,r.key,x⟩,ct,⟨w1,hE,O2,Co aF (by decide)⟩,aoG ⟨bF,bQ,by simp[bu],by simp[e1],by simp[e2],by simp[cg],cb,aa⟩⟩
 exact⟨d2,r,b6,aA.wf,aoH ⟨bF,bQ,by simp[bu],by simp[e1],by simp[e2],by simp[cg],aa⟩⟩
theorem yn(r:aq):Flat [r.e]:=dD fun d aG=>by
 simp only[aq.e,eP,nZ,or_false]at aG;rcases aG with rfl | rfl | rfl | rfl | rfl<;>exact⟨_,rfl⟩
theorem WO(b:List Int):∀(n i:Nat) (xs:List aq) (c:dG),i+n=7->c.ok b->xs.length<=i->(∀r∈xs,r.wf)->
  ∃(ys:List aq) (d:dG),d.ok b/\ys.length<=7/\(∀r∈ys,r.wf)/\c5 prog (ar f228 0) (ql (b.map gJ) i (xs.map aq.e) c.i c.h) (.exit 0) (GF (b.map gJ) (ys.map aq.e) d.i d.h)
 | n,i,xs,c,lz,aj,ap,ah=>by
  obtain⟨d1,m,ci,av,bF⟩:=eb b c 7 aj (by omega);by_cases h:(i:Int)<m
  ·match n with
   | 0=>omega
   | n+1=>
    have go:∀(r:aq) (d:dG),r.wf->d.ok b->fT prog (ar f228 0) (ql (b.map gJ) i (xs.map aq.e) c.i c.h) .normal (ql (b.map gJ) (i+1:Nat) ((xs++[r]).map aq.e) d.i d.h)->
      ∃(ys:List aq) (d:dG),d.ok b/\ys.length<=7/\(∀r∈ys,r.wf)/\c5 prog (ar f228 0) (ql (b.map gJ) i (xs.map aq.e) c.i c.h) (.exit 0) (GF (b.map gJ) (ys.map aq.e) d.i d.h):=by
     intro r d aA adM aBF;obtain⟨ys,d,o,eF,eV,l⟩:=WO b n (i+1) (xs++[r]) d (by omega) adM (by simp;omega) (fun z bi=>by
      rcases ki.1 bi with bi | bi
      ·exact ah z bi
      rw[List.mem_singleton]at bi;subst bi;exact aA)
     exact⟨ys,d,o,eF,eV,.more aBF l⟩
    have sR:(((xs.map aq.e).length+[(⟨0,⟨0,0⟩,0,0⟩:aq).e].length:Nat))*40<=140737488355328:=by simp;omega
    by_cases cC:xs.length=0
    ·obtain⟨d2,r,b6,aA,bQ⟩:=zU b d1 ci;refine go r d2 aA b6 ?_;rw[fQ];exact aoK ⟨bF,jj h,by simp[cC],bQ,by simp;omega,by simp;omega,yn r,⟨by omega,by omega⟩,aa⟩
    have uU:decide ((↑(xs.map aq.e).length:Int)>0)=true:=by simp;omega
    obtain⟨d2,x,b6,bQ⟩:=xT b d1 5 ci (by omega);cases x with
    | true=>
     obtain⟨d3,k,ct,hk,cb⟩:=eb b d2 (xs.length:Int) b6 (by omega);obtain⟨r,aA⟩:=c9 (xs:=xs) (i:=k.toNat) (by omega);refine go r d3 (ah r (eD aA)) ct ?_;rw[fQ];exact aoI ⟨bF,jj h,uU,bQ,rfl,by rw[bl];exact cb,hk.1,by rw[bl];exact hk.2,by rw[dq,aA];rfl,by simp;omega,by simp;omega,yn r,⟨by omega,by omega⟩,aa⟩
    | false=>
     obtain⟨d3,r,ct,aA,cb⟩:=zU b d2 b6;refine go r d3 aA ct ?_;rw[fQ];exact aoJ ⟨bF,jj h,uU,bQ,rfl,cb,by simp;omega,by simp;omega,yn r,⟨by omega,by omega⟩,aa⟩
  exact⟨xs,d1,ci,by omega,ah,.last (cH 0) (aoL ⟨bF,lQ h,aa⟩)⟩
theorem ap8(b:List Int)(c:dG)(aj:c.ok b):∃(d:dG) (xs:List aq),d.ok b/\xs.length<=7/\(∀r∈xs,r.wf)/\bW prog 228 [.cur (c.e b) (d.e b)] (.vals [.one (.J 5 (xs.map aq.e))]):=by
 obtain⟨ys,d,o,eF,eV,l⟩:=WO b 7 0 [] c rfl aj (by simp) (by simp);exact⟨d,ys,o,eF,eV,aoM ⟨l,aa⟩⟩
theorem ap9(b:List Int)(av:Bytes b):∃(xs:List aq) (r:aq),xs.length<=7/\(∀r∈xs,r.wf)/\r.wf/\al 94 [.one (.J 1 (b.map gJ))] [.one (.J 5 (xs.map aq.e)),.agg r.e]:=by
 obtain⟨c,aj,gw⟩:=GN b av;obtain⟨d1,xs,ci,hs,gS,bF⟩:=ap8 b c aj;by_cases cC:xs.length=0
 ·obtain⟨d2,r,b6,aA,bQ⟩:=zU b d1 ci;exact⟨xs,r,hs,gS,aA,aow ⟨gw,bF,by simp[cC],bQ,aa⟩⟩
 have uU:decide ((↑(xs.map aq.e).length:Int)>0)=true:=by simp;omega
 obtain⟨d2,x,b6,bQ⟩:=xT b d1 2 ci (by omega);cases x with
 | true=>
  obtain⟨d3,k,ct,hk,cb⟩:=eb b d2 (xs.length:Int) b6 (by omega);obtain⟨r,aA⟩:=c9 (xs:=xs) (i:=k.toNat) (by omega);exact⟨xs,r,hs,gS,gS r (eD aA),aou ⟨gw,bF,uU,bQ,rfl,aot ⟨by rw[bl];exact cb,hk.1,by rw[bl];exact hk.2,by rw[dq,aA];rfl,aa⟩,aa⟩⟩
 | false=>
  obtain⟨d3,r,ct,aA,cb⟩:=zU b d2 b6;exact⟨xs,r,hs,gS,aA,aov ⟨gw,bF,uU,bQ,rfl,cb,aa⟩⟩
