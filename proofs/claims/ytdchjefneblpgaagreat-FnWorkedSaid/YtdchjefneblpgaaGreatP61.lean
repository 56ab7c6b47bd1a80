import Derived.Test.YtdchjefneblpgaaGreatT5
import Derived.Test.YtdchjefneblpgaaGreatR35
import Derived.Test.YtdchjefneblpgaaGreatGD
import Derived.Test.YtdchjefneblpgaaGreatP72
import Derived.Test.YtdchjefneblpgaaGreatGY
set_option linter.unusedVariables false
set_option linter.unusedSimpArgs false
namespace Go.Proofs.YtdchjefneblpgaaGreat
open Go.Sx Go.RowKit Go.Proofs.Tryz
def hK(n:Int):List D:=[.v (.int .u8 n)]
structure dI where
 i:Int
 h:Int
def dI.e(b:List Int)(c:dI):List D:=[.J 1 (b.map hK),I c.i,I c.h]
def Bytes(b:List Int):Prop:=b.length<=8388608/\∀x∈b,0<=x/\x<=255
def dI.ok(b:List Int)(c:dI):Prop:=Bytes b/\0<=c.i/\c.i<=b.length
theorem as2{P:Program}{t:TypeId}{ds:List D}(hu:P.underlying t=some (.int .u8))(h:jy P t ds):∃n,ds=hK n/\0<=n/\n<=255:=by
 have U:∃n,ds=[.v (.int .u8 n)]/\(Lit.int .u8 n).wf=true:=by cases h<;>simp_all
 obtain⟨n,e,hw⟩:=U;refine⟨n,e,?_⟩;simp[Lit.wf]at hw;have aw:IntKind.u8.min=0:=rfl;rw[aw]at hw;exact hw
theorem alU:prog.cellsOf 5=1:=by kernel_rfl
theorem alV{ds:List D}(h:jy prog 22 ds):∃xs:List Int,ds=[.J 1 (xs.map hK)]/\(xs.length:Int)<=9223372036854775807/\∀a∈xs,(fun n=>0<=n/\n<=255) a:=
 akL hK (fun n=>0<=n/\n<=255) Tryz.underlying22 alU (fun ds h=>as2 Tryz.underlying5 h) h
theorem alW{ck:cF}(h:BH prog 22 ck):∃xs:List Int,ck=.one (.J 1 (xs.map hK))/\(xs.length:Int)<=9223372036854775807/\∀a∈xs,(fun n=>0<=n/\n<=255) a:=by
 cases ck with
 | agg ds=>have:=h.2;simp[q',Tryz.underlying22]at this
 | one d=>
  obtain⟨x,e,ag⟩:=alV h.1;obtain rfl:=(VO e).1;exact⟨x,rfl,ag⟩
theorem Qg{P:Program}(a:Int)(n:Nat):∃m:Int,∀t x y,lv P .shr t x y (.int .i64 a) (.int .u64 (n:Int)) (.int .i64 m):=⟨_,fun _ _ _=>akY⟩
theorem alX{P:Program}(a b:Int):∃m:Int,∀t x y,lv P .xor t x y (.int .i64 a) (.int .i64 b) (.int .i64 m):=⟨_,fun _ _ _=>akZ⟩
theorem IJ{P:Program}(a:Int)(k:Nat)(hk:k<2 ^ 62):∃m:Int,(0<=m/\m<=k)/\∀t x y,lv P .and t x y (.int .i64 a) (.int .i64 (k:Int)) (.int .i64 m):=⟨_,ak1 a k hk,fun _ _ _=>ak0⟩
theorem Qh(b:List Int)(ar:Bytes b):∀(n i:Nat) (h:Int),i+n=b.length->0<=h/\h<=1073741823->∃ja,c3 prog (aq f117 0) (xu (b.map hK) i h) (.exit 0) (Dd (b.map hK) ja)
 | 0,i,h,hi,bJ=>⟨h,.last (cM 0) (ak4 ⟨by rw[mU,bk];omega,aa⟩)⟩
 | n+1,i,h,hi,bJ=>by
  have al:=ar.1;obtain⟨x,ag⟩:=c0 (xs:=b) (i:=i) (by omega);have ar:=ar.2 x (eA ag);by_cases aH:(i:Int)<4000
  ·obtain⟨m,hm,r⟩:=IJ (P:=prog) (h*131+x+7) 1073741823 (by decide);obtain⟨ja,l⟩:=Qh b ‹Bytes b› n (i+1) m (by omega) hm;exact⟨ja,.more (ak2 ⟨b' (by omega),j' aH,⟨by omega,by omega⟩,bF,bI (by omega),bG hK ag,⟨by omega,by omega⟩,⟨by omega,by omega⟩,⟨by omega,by omega⟩,r _ _ _,⟨by omega,by omega⟩,aa⟩) l⟩
  exact⟨h,.last (cM 0) (ak3 ⟨b' (by omega),lE aH,aa⟩)⟩
theorem alY(b:List Int)(ar:Bytes b):∃c:dI,c.ok b/\bY prog 117 [.ro (.one (.J 1 (b.map hK)))] (.iN [some 0,none,none] (c.e b)):=by
 have al:=ar.1;obtain⟨ja,l⟩:=Qh b ar b.length 0 (94701+(↑(b.map hK).length:Int)) (by omega) ⟨by omega,by simp;omega⟩;exact⟨⟨0,ja⟩,⟨ar,by dsimp only;omega,by dsimp only;omega⟩,ak5 ⟨⟨by omega,by simp;omega⟩,l,aa⟩⟩
theorem Df(b:List Int)(c:dI)(ai:c.ok b):∃(d:dI) (n:Int),d.ok b/\(0<=n/\n<=255)/\bY prog 253 [.cur (c.e b) (d.e b)] (.vals [.one (I n)]):=by
 obtain⟨⟨h1,U⟩,aw,aH⟩:=ai;obtain⟨nE,cj⟩:=Qg (P:=prog) (IntKind.i64.wrap (IntKind.i64.wrap (c.h*6364136223846793005)+1442695040888963407)) 33;obtain⟨kP,ep⟩:=Qg (P:=prog) (IntKind.i64.wrap (IntKind.i64.wrap (c.h*6364136223846793005)+1442695040888963407)) 45;obtain⟨lV,jN⟩:=alX (P:=prog) nE kP;obtain⟨n6,m6,nY⟩:=IJ (P:=prog) lV 255 (by decide);by_cases hi:c.i<b.length
 ·obtain⟨x,ag⟩:=c0 (xs:=b) (i:=c.i.toNat) (by omega);have ar:=U x (eA ag);obtain⟨n8,m8,asH⟩:=IJ (P:=prog) (IntKind.i64.wrap (n6+IntKind.i64.wrap x)) 255 (by decide);exact⟨⟨c.i+1,IntKind.i64.wrap (IntKind.i64.wrap (c.h*6364136223846793005)+1442695040888963407)⟩,n8,⟨⟨h1,U⟩,by dsimp only;omega,by dsimp only;omega⟩,m8,ak6 ⟨cj _ _ _,ep _ _ _,jN _ _ _,nY _ _ _,by rw[cU,bk];exact hi,aw,by rw[bk];exact hi,by rw[dj,ag];rfl,asH _ _ _,⟨by omega,by omega⟩,aa⟩⟩
 exact⟨⟨c.i,IntKind.i64.wrap (IntKind.i64.wrap (c.h*6364136223846793005)+1442695040888963407)⟩,n6,⟨⟨h1,U⟩,aw,aH⟩,m6,akx ⟨cj _ _ _,ep _ _ _,jN _ _ _,nY _ _ _,by rw[mU,bk];exact hi,aa⟩⟩
theorem dY(b:List Int)(c:dI)(k:Int)(ai:c.ok b)(hk:1<=k/\k<=1000000):∃(d:dI) (n:Int),d.ok b/\(0<=n/\n<k)/\bY prog 138 [.cur (c.e b) (d.e b),.ro (.one (I k))] (.vals [.one (I n)]):=by
 have md:∀m:Int,0<=m->0<=m.tmod k/\m.tmod k<k:=fun m hm=>⟨Int.tmod_nonneg _ hm,Int.tmod_lt_of_pos m (by omega)⟩
 obtain⟨d1,kv,cC,gV,bM⟩:=Df b c ai;by_cases h:k<=256
 ·exact⟨d1,_,cC,md kv gV.1,aky ⟨lE (by omega),j' h,bM,by omega,aa⟩⟩
 obtain⟨d2,ll,cc,gm,b2⟩:=Df b d1 cC;obtain⟨d3,nE,cH,yc,cj⟩:=Df b d2 cc;obtain⟨d4,kP,fr,Fo,ep⟩:=Df b d3 cH;exact⟨d4,_,fr,md _ (by omega),akz ⟨lE (by omega),lE h,bM,b2,cj,ep,⟨by omega,by omega⟩,⟨by omega,by omega⟩,⟨by omega,by omega⟩,⟨by omega,by omega⟩,⟨by omega,by omega⟩,⟨by omega,by omega⟩,by omega,aa⟩⟩
theorem Dg(b:List Int)(c:dI)(k:Int)(ai:c.ok b)(hk:1<=k/\k<=1000000):∃(d:dI) (x:Bool),d.ok b/\bY prog 136 [.cur (c.e b) (d.e b),.ro (.one (I k))] (.vals [.one (B x)]):=by
 obtain⟨d,n,o,_,r⟩:=dY b c k ai hk;exact⟨d,_,o,akA ⟨r,aa⟩⟩
theorem kS(b:List Int)(c:dI)(xs:List Int)(ai:c.ok b)(hk:1<=xs.length/\xs.length<=1000):∃(d:dI) (n:Int),d.ok b/\n∈xs/\bY prog 140 [.cur (c.e b) (d.e b),.ro (.one (.J 1 (xs.map a')))] (.vals [.one (I n)]):=by
 obtain⟨d,n,o,ar,r⟩:=dY b c (xs.length:Int) ai (by omega);obtain⟨x,ag⟩:=c0 (xs:=xs) (i:=n.toNat) (by omega);refine⟨d,x,o,eA ag,akB ⟨?_,ar.1,by rw[bk];exact ar.2,by rw[dj,ag];rfl,aa⟩⟩;rw[bk];exact r
end Go.Proofs.YtdchjefneblpgaaGreat
namespace Go.Proofs.YtdchjefneblpgaaGreat
open Go.Sx Go.RowKit Go.Proofs.Tryz
def Input(r:aG):Prop:=r.op=0/\r.bw.ec=0/\(0<=r.bw.bc/\r.bw.bc<=2)/\(0<=r.key/\r.key<12)/\(0<=r.val/\r.val<40)
theorem PI(b:List Int):∀(n i:Nat) (e:Int) (xs:List aG) (c:dI),i+n=5->c.ok b->(0<=e/\e<=2)->xs.length<=i->(∀r∈xs,Input r)->
  ∃(ys:List aG) (d:dI),d.ok b/\ys.length<=5/\(∀r∈ys,Input r)/\c3 prog (aq f119 0) (zt (b.map hK) i e (xs.map aG.e) c.i c.h) (.exit 0) (ID (b.map hK) (ys.map aG.e) d.i d.h)
 | n,i,e,xs,c,nr,ai,he,al,ag=>by
  obtain⟨d1,m,cC,ar,bM⟩:=dY b c 6 ai (by omega);by_cases h:(i:Int)<m
  ·match n with
   | 0=>omega
   | n+1=>
    obtain⟨d2,a,cc,ah,b2⟩:=dY b d1 2 cC (by omega);obtain⟨d3,k,cH,hk,cj⟩:=dY b d2 12 cc (by omega);obtain⟨d4,v,fr,bt,ep⟩:=dY b d3 40 cH (by omega);have n9:=Dj (e+a) 0 2;have Ng:0<=hQ (e+a) 0 2/\hQ (e+a) 0 2<=2:=by
     unfold hQ;simp only[show ¬(2:Int)<0 by omega,lD];split<;>(try split)<;>omega
    obtain⟨ys,d,o,fj,fc,l⟩:=PI b n (i+1) (hQ (e+a) 0 2) (xs++[⟨0,⟨hQ (e+a) 0 2,0⟩,k,v⟩]) d4 (by omega) fr Ng (by simp;omega) (fun r aA=>by
     rcases lB.1 aA with aA | aA
     ·exact ag r aA
     rw[List.mem_singleton]at aA;subst aA;exact⟨rfl,rfl,Ng,hk,bt⟩)
    refine⟨ys,d,o,fj,fc,.more ?_ l⟩;rw[hx];exact alJ ⟨bM,j' h,b2,⟨by omega,by omega⟩,n9,cj,ep,by simp;omega,by simp;omega,dL (fun d aD=>by simp only[eu,mT,or_false]at aD;rcases aD with rfl | rfl | rfl | rfl | rfl<;>exact⟨_,rfl⟩),⟨by omega,by omega⟩,aa⟩
  exact⟨xs,d1,cC,by omega,ag,.last (cM 0) (alK ⟨bM,lE h,aa⟩)⟩
theorem PJ(b:List Int)(c:dI)(ai:c.ok b):∃(d:dI) (xs:List aG),d.ok b/\xs.length<=5/\(∀r∈xs,Input r)/\bY prog 119 [.cur (c.e b) (d.e b)] (.vals [.one (.J 5 (xs.map aG.e))]):=by
 obtain⟨ys,d,o,fj,fc,l⟩:=PI b 5 0 0 [] c rfl ai (by omega) (by simp) (by simp);exact⟨d,ys,o,fj,fc,alL ⟨l,aa⟩⟩
end Go.Proofs.YtdchjefneblpgaaGreat
namespace Go.Proofs.YtdchjefneblpgaaGreat
open Go.Sx Go.RowKit Go.Proofs.Tryz
def r7(r:aG):Bool:=!e4 r||r.op != 0||r.bw.ec != 0
def HN(g:bX)(xs:List aG)(w e:Int):List aG:=xs.filter fun r=>r.bw.bc==e&&j5 r.key g.az==w
def s6(g:bX)(xs:List aG)(w:Int)(n:Nat):List aG:=(List.range n).flatMap fun e=>HN g xs w (e:Nat)
def own(g:bX)(xs:List aG)(w:Int):List aG:=s6 g xs w 4
def r8(xs:List aG):aS:=⟨[],[],xs,[],List.replicate 4 0,List.replicate 4 false,List.replicate 4 false,[]⟩
def pS(cap:Int):bD:=⟨hQ cap 1 4,[],hQ cap 1 4,0,0,0⟩
def Eo:b0:=⟨false,0,0,false,false⟩
def qy(g:bX)(xs:List aG)(n:Nat):List aS:=(List.range n).map fun w=>r8 (own g xs (w:Nat))
def kU(g:bX)(xs:List aG):bd:=⟨g,qy g xs g.az.toNat,List.replicate (g.az.toNat*g.az.toNat) (pS g.cap),List.replicate 4 Eo,[]⟩
def PK:bd:=⟨⟨[],0,0⟩,[],[],[],[]⟩
def nG(g:bX)(xs:List aG):Bool:=eg g&&decide (xs.length<=20)&&!xs.any r7
def xv(g:bX)(xs:List aG):bd×Bool:=if nG g xs then (kU g xs,true) else (PK,false)
theorem alZ(g:bX)(xs:List aG)(w:Int)(n:Nat):s6 g xs w (n+1)=s6 g xs w n++HN g xs w (n:Nat):=by
 simp[s6,List.range_succ]
theorem PL(g:bX)(xs:List aG)(w:Int)(n:Nat):(s6 g xs w n).length<=n*xs.length:=by
 have h:=xy (fun e:Nat=>HN g xs w (e:Nat)) xs.length (fun _=>q2 _ _) (List.range n);rwa[xY]at h
variable{xs:List aG}
theorem PM{g:bX}(al:xs.length<=20)(w:Int):(own g xs w).length<=80:=by
 have:=PL g xs w 4;unfold own;omega
theorem al0{g:bX}(al:xs.length<=20)(w:Int){n:Nat}(aW:n<4):(s6 g xs w n).length<=60:=by
 have:=PL g xs w n;have:n*xs.length<=3*20:=Nat.mul_le_mul (by omega) al;omega
theorem al1(g:bX)(xs:List aG)(n:Nat):qy g xs (n+1)=qy g xs n++[r8 (own g xs (n:Nat))]:=by
 simp[qy,List.range_succ]
theorem IK(g:bX)(xs:List aG)(n:Nat):(qy g xs n).length=n:=by simp[qy]
theorem al2{α:Type}{f:α->List D}{x:α}{m:Nat}:(List.replicate m x).map f++[f x]=(List.replicate (m+1) x).map f:=by
 rw[List.replicate_succ',hx];rfl
theorem PN(cap:Int):av 126 [.one (I cap)] [.agg (pS cap).e]:=afY ⟨Dj cap 1 4,aa⟩
theorem PO(xs:List aG)(al:xs.length<=1000):av 124 [.one (.J 5 (xs.map aG.e))] [.agg (r8 xs).e]:=
 ae9 ⟨nl (by simp;omega),jJ (by simp;omega),cf _ aG.flat _,by omega,by omega,by decide,by omega,by omega,by omega,by decide,by omega,by omega,by omega,by decide,by omega,aa⟩
theorem al3(g:bX)(xs:List aG)(w:Int)(aW:1<=g.az/\g.az<=4)(al:xs.length<=20):av 125 [.agg g.e,.one (.J 5 (xs.map aG.e)),.one (I w)] [.one (.J 5 ((own g xs w).map aG.e))]:=by
 have lk:=fun (e:Nat) (he:e<4) (acc:List aG) (ah:acc.length<=100)=>eY (P:=prog) (c:=(aq f125 1)) (cM 2) xs.length (fun i:Nat=>sf (g.nodes.map Node.e) g.az g.cap (xs.map aG.e) w e i ((acc++(xs.take i).filter fun r=>r.bw.bc==(e:Int)&&j5 r.key g.az==w).map aG.e)) (fun i hi=>by
  obtain⟨r,aA⟩:=c0 hi;have bT:((xs.take i).filter fun r=>r.bw.bc==(e:Int)&&j5 r.key g.az==w).length<=20:=by
   have:=q2 (fun r:aG=>r.bw.bc==(e:Int)&&j5 r.key g.az==w) (xs.take i);have:=KW i xs;omega
  rw[zp _ aA];generalize (xs.take i).filter (fun r=>r.bw.bc==(e:Int)&&j5 r.key g.az==w)=eH at*;have u0:=QK r.key g.az (by omega);cases h1:(r.bw.bc==(e:Int)) with
  | false=>
   rw[Bool.false_and,bh (by decide),lz];exact afT ⟨b' hi,bF,bI hi,bG aG.e aA,h1,df hi (by omega),aa⟩
  | true=>
   cases U:(j5 r.key g.az==w) with
   | false=>
    rw[Bool.and_false,bh (by decide),lz];exact afS ⟨b' hi,bF,bI hi,bG aG.e aA,h1,bF,bI hi,bG aG.e aA,u0,U,df hi (by omega),aa⟩
   | true=>
    rw[ue,br rfl,<-t',KT];exact afR ⟨b' hi,bF,bI hi,bG aG.e aA,h1,bF,bI hi,bG aG.e aA,u0,U,bF,bI hi,bG aG.e aA,by simp;omega,by simp;omega,dL (aG.flat r),df hi (by omega),aa⟩) (afU ⟨dG,aa⟩)
 have fx:=eY (P:=prog) (c:=(aq f125 0)) (cM 0) 4 (fun n:Nat=>zS (g.nodes.map Node.e) g.az g.cap (xs.map aG.e) w n ((s6 g xs w n).map aG.e)) (fun n aW=>by
  have:=lk n aW (s6 g xs w n) (by have:=al0 (g:=g) al w aW;omega);rw[k3,List.take_zero,List.filter_nil,lz]at this;rw[alZ];exact afV ⟨dW (by omega),this,⟨by omega,by omega⟩,aa⟩) (afW ⟨eT (by omega),aa⟩)
 exact afX ⟨fx,aa⟩
theorem Kb{g:bX}(h:nG g xs=false):xv g xs=(PK,false):=by unfold xv;rw[h];rfl
theorem Kc{g:bX}(h:nG g xs=true):xv g xs=(kU g xs,true):=by unfold xv;rw[h];rfl
theorem al4(g:bX)(xs:List aG)(al:xs.length<=20):
  (xs.any r7=false/\c3 prog (aq f14 0) (pY (xs.map aG.e) 0 0 0 (g.nodes.map Node.e) g.az g.cap) (.exit 0) (JK (xs.map aG.e) 0 0 (g.nodes.map Node.e) g.az g.cap))\/
  (xs.any r7=true/\c3 prog (aq f14 0) (pY (xs.map aG.e) 0 0 0 (g.nodes.map Node.e) g.az g.cap) .ret (xe false 0 0)):=by
 have l:=gN (P:=prog) (c:=(aq f14 0)) xs r7 (fun i=>pY (xs.map aG.e) i 0 0 (g.nodes.map Node.e) g.az g.cap) (e1:=.ret) (e2:=.exit 0) (X:=fun _ _=>xe false 0 0) fg (cM 0)
  (fun i a ah h=>by
   simp only[r7,gz]at h;have hi:=a8 ah;exact afJ ⟨b' hi,bF,bI hi,bG aG.e ah,r9 a,h.1.1,bF,bI hi,bG aG.e ah,h.1.2,bF,bI hi,bG aG.e ah,h.2,df hi (by omega),aa⟩)
  (fun i a ah h=>by
   have hi:=a8 ah;have gF:=r9 a;unfold r7 at h;cases h1:(!e4 a) with
   | true=>exact afG ⟨b' hi,bF,bI hi,bG aG.e ah,gF,h1,aa⟩
   | false=>
    cases U:(a.op != 0) with
    | true=>exact afH ⟨b' hi,bF,bI hi,bG aG.e ah,gF,h1,bF,bI hi,bG aG.e ah,U,aa⟩
    | false=>
     rw[h1,U,jT,jT]at h;exact afI ⟨b' hi,bF,bI hi,bG aG.e ah,gF,h1,bF,bI hi,bG aG.e ah,U,bF,bI hi,bG aG.e ah,h,aa⟩)
  (afK ⟨dG,aa⟩)
 rcases l with⟨_,_,h1,U⟩ | ⟨i,a,_,_,_,_,h1,U⟩
 ·exact .inl ⟨h1,U⟩
 exact .inr ⟨h1,U⟩
theorem al5(g:bX)(xs:List aG)(aW:1<=g.az/\g.az<=4)(al:xs.length<=20):
  c3 prog (aq f14 1) (xf (xs.map aG.e) 0 (g.nodes.map Node.e) g.az g.cap [] [] ((List.replicate 4 Eo).map b0.e) 0 0 (g.nodes.map Node.e) g.az g.cap) (.exit 2)
   (JL (g.nodes.map Node.e) g.az g.cap ((qy g xs g.az.toNat).map aS.e) ((List.replicate (g.az.toNat*g.az.toNat) (pS g.cap)).map bD.e) ((List.replicate 4 Eo).map b0.e) 0 0):=by
 obtain⟨n,Ch⟩:∃n:Nat,g.az=n:=⟨g.az.toNat,by omega⟩
 have yO:n<=4:=by omega
 have zb:=fun (w:Nat) (m:Nat) (W T:List (List D)) (hm:m<=16)=>eY (P:=prog) (c:=(aq f14 2)) (cM 4) n (fun k:Nat=>zR (xs.map aG.e) w k (g.nodes.map Node.e) g.az g.cap W ((List.replicate (m+k) (pS g.cap)).map bD.e) T 0 0 (g.nodes.map Node.e) g.az g.cap) (fun k hk=>by
  rw[<-v8,<-al2];exact afM ⟨dW (by omega),PN g.cap,by simp;omega,by simp;omega,⟨by omega,by omega⟩,aa⟩) (afN ⟨eT (by omega),aa⟩)
 have lk:=eY (P:=prog) (c:=(aq f14 1)) (cM 2) n (fun w:Nat=>xf (xs.map aG.e) w (g.nodes.map Node.e) g.az g.cap ((qy g xs w).map aS.e) ((List.replicate (w*n) (pS g.cap)).map bD.e) ((List.replicate 4 Eo).map b0.e) 0 0 (g.nodes.map Node.e) g.az g.cap) (fun w hw=>by
  have sY:=IK g xs w;have hm:w*n<=3*4:=Nat.mul_le_mul (by omega) yO;rw[al1,KT,show (w+1)*n=w*n+n by rw[fu,Nat.one_mul]];exact afO ⟨dW (by omega),al3 g xs w aW al,PO _ (by have:=PM (g:=g) al (w:Nat);omega),by simp[sY];omega,by simp[sY];omega,zb w (w*n) _ _ (by omega),⟨by omega,by omega⟩,aa⟩) (afP ⟨eT (by omega),aa⟩)
 rw[show ((0:Nat)*n)=0 by omega]at lk;rw[Ch,oR];rw[Ch]at lk;exact lk
theorem PQ(g:bX)(xs:List aG)(au:g.sz<=8388608):av 14 [.agg g.e,.one (.J 5 (xs.map aG.e))] [.agg (xv g xs).1.e,.one (B (xv g xs).2)]:=by
 have wl:=xB g au;cases h1:eg g with
 | false=>
  rw[h1]at wl;rw[Kb (by unfold nG;rw[h1];rfl)];exact afE ⟨wl,rfl,aa⟩
 | true=>
 rw[h1]at wl;by_cases al:xs.length<=20
 case neg=>
  rw[Kb (by unfold nG;rw[lE al,Bool.and_false];rfl)];exact afF ⟨wl,rfl,dW (by simp;omega),aa⟩
 rcases al4 g xs al with⟨U,l⟩ | ⟨U,l⟩
 ·rw[Kc (by unfold nG;rw[h1,U,j' al];rfl)];exact afQ ⟨wl,rfl,eT (by simp;omega),l,RK g au,by omega,by omega,by decide,by omega,al5 g xs (nV h1) al,aa⟩
 rw[Kb (by unfold nG;rw[U];simp)];exact afL ⟨wl,rfl,eT (by simp;omega),l,aa⟩
end Go.Proofs.YtdchjefneblpgaaGreat
namespace Go.Proofs.YtdchjefneblpgaaGreat
open Go.Sx Go.RowKit Go.Proofs.Tryz
def xw(k a b:Int):List Node:=[⟨1,0,0,[1]⟩,⟨k,0,0,[2,5]⟩,⟨4,1+a,0,[3]⟩,⟨2,b,0,[4]⟩,⟨7,0,0,[1]⟩,⟨8,0,0,[]⟩]
def oJ(k a b c:Int):Nat->List Node
 | 0=>(xw k a b).set 3 ⟨3,1+c,0,[4]⟩
 | 1=>(xw k a b).set 4 ⟨8,0,0,[]⟩
 | 2=>(xw k a b).set 2 ⟨4,1+a,0,[3,4]⟩
 | 3=>(xw k a b++[(⟨8,0,0,[]⟩:Node)]).set 0 ⟨1,0,0,[1,6]⟩
 | _=>xw k a b
structure lF (g:bX):Prop where
 nodes:∃(k a b c:Int) (v:Nat),(k=5\/k=6)/\(0<=a/\a<3)/\(0<=b/\b<4)/\(0<=c/\c<3)/\v<=4/\g.nodes=oJ k a b c v
 az:1<=g.az/\g.az<=3
 cap:1<=g.cap/\g.cap<=3
theorem lF.ok{g:bX}(h:lF g):eg g=true:=by
 obtain⟨⟨k,a,b,c,v,hk,ah,ar,ai,bt,aW⟩,hw,fE⟩:=h;obtain⟨nodes,az,cap⟩:=g;simp only at aW hw fE;have Wi:a=0\/a=1\/a=2:=by omega
 have Wj:b=0\/b=1\/b=2\/b=3:=by omega
 have Wk:c=0\/c=1\/c=2:=by omega
 have bi:v=0\/v=1\/v=2\/v=3\/v=4:=by omega
 have atS:az=1\/az=2\/az=3:=by omega
 have cE:cap=1\/cap=2\/cap=3:=by omega
 have key:∀k∈[(5:Int),6],∀a∈[(0:Int),1,2],∀b∈[(0:Int),1,2,3],∀c∈[(0:Int),1,2],∀v∈[0,1,2,3,4],(!(anyI (iR ⟨oJ k a b c v,1,1⟩) 0 (oJ k a b c v))&&decide ((oJ k a b c v).length<=7)&&decide (1<=(oJ k a b c v).length))=true:=by decide +kernel
 have:=key k (by rcases hk with h | h<;>simp[h]) a (by rcases Wi with h | h | h<;>simp[h]) b (by rcases Wj with h | h | h | h<;>simp[h]) c (by rcases Wk with h | h | h<;>simp[h]) v (by rcases bi with h | h | h | h | h<;>simp[h]);simp only[cx,cU]at this;obtain⟨⟨h1,U⟩,aw⟩:=this;subst aW;have XP:iR ⟨oJ k a b c v,az,cap⟩=iR ⟨oJ k a b c v,1,1⟩:=rfl;unfold eg;simp only[cx];rw[XP];refine⟨⟨⟨?_,?_⟩,?_⟩,h1⟩
 ·simp only[ap,cx,cU];omega
 ·simp only[ap,cx,cU];omega
 simp only[ap,cx,cU];omega
theorem PR(b:List Int)(c:dI)(ai:c.ok b):∃(d:dI) (g:bX),d.ok b/\lF g/\bY prog 118 [.cur (c.e b) (d.e b)] (.vals [.agg g.e]):=by
 obtain⟨d1,kv,cC,h1,bM⟩:=dY b c 3 ai (by omega);obtain⟨d2,ll,cc,U,b2⟩:=dY b d1 3 cC (by omega);obtain⟨d3,x,cH,cj⟩:=Dg b d2 3 cc (by omega);obtain⟨d4,kP,fr,aH,ep⟩:=dY b d3 3 cH (by omega);obtain⟨d5,lV,rT,aU,jN⟩:=dY b d4 4 fr (by omega);obtain⟨d6,n6,YI,bA,nY⟩:=dY b d5 3 rT (by omega);obtain⟨d7,n7,YJ,bP,qU⟩:=dY b d6 6 YI (by omega);have i1:ay .i64 (1+kv):=⟨by omega,by omega⟩
 have i2:ay .i64 (1+ll):=⟨by omega,by omega⟩
 have i4:ay .i64 (1+kP):=⟨by omega,by omega⟩
 have i6:ay .i64 (1+n6):=⟨by omega,by omega⟩
 have fin:∀(k:Int) (v:Nat) {ds:List (List D)},(k=5\/k=6)->v<=4->lG ds ((oJ k kP lV n6 v).map Node.e)->bY prog 118 [.cur (c.e b) (d7.e b)] (.vals [.agg [.J 4 ds,I (1+kv),I (1+ll)]])->
   ∃(d:dI) (g:bX),d.ok b/\lF g/\bY prog 118 [.cur (c.e b) (d.e b)] (.vals [.agg g.e]):=by
  intro k v ds hk bt bT aA;exact⟨d7,⟨oJ k kP lV n6 v,1+kv,1+ll⟩,YJ,⟨⟨k,kP,lV,n6,v,hk,aH,aU,bA,bt,rfl⟩,by dsimp only;omega,by dsimp only;omega⟩,
   aA.fit (.cons (.agg (.cons (.J 4 bT) (jU.refl _))) .nil)⟩
 have f1:∀d,Fit d d:=.refl;by_cases bE:n7=0
 ·cases x
  ·exact fin 5 0 (.inl rfl) (by omega) (by repeat (first | exact .refl _ | constructor)) (amj ⟨bM,i1,b2,i2,cj,rfl,ep,i4,jN,nY,i6,qU,by simp[bE],by omega,by simp,rfl,aa⟩)
  exact fin 6 0 (.inr rfl) (by omega) (by repeat (first | exact .refl _ | constructor)) (ame ⟨bM,i1,b2,i2,cj,rfl,ep,i4,jN,nY,i6,qU,by simp[bE],by omega,by simp,rfl,aa⟩)
 by_cases e1:n7=1
 ·cases x
  ·exact fin 5 1 (.inl rfl) (by omega) (by repeat (first | exact .refl _ | constructor)) (amk ⟨bM,i1,b2,i2,cj,rfl,ep,i4,jN,nY,i6,qU,by simp[bE],by simp[e1],by omega,by simp,rfl,aa⟩)
  exact fin 6 1 (.inr rfl) (by omega) (by repeat (first | exact .refl _ | constructor)) (amf ⟨bM,i1,b2,i2,cj,rfl,ep,i4,jN,nY,i6,qU,by simp[bE],by simp[e1],by omega,by simp,rfl,aa⟩)
 by_cases e2:n7=2
 ·cases x
  ·exact fin 5 2 (.inl rfl) (by omega) (by repeat (first | exact .refl _ | constructor)) (aml ⟨bM,i1,b2,i2,cj,rfl,ep,i4,jN,nY,i6,qU,by simp[bE],by simp[e1],by simp[e2],by omega,by simp,rfl,aa⟩)
  exact fin 6 2 (.inr rfl) (by omega) (by repeat (first | exact .refl _ | constructor)) (amg ⟨bM,i1,b2,i2,cj,rfl,ep,i4,jN,nY,i6,qU,by simp[bE],by simp[e1],by simp[e2],by omega,by simp,rfl,aa⟩)
 by_cases cb:n7=3
 ·cases x
  ·exact fin 5 3 (.inl rfl) (by omega) (by repeat (first | exact .refl _ | constructor)) (amm ⟨bM,i1,b2,i2,cj,rfl,ep,i4,jN,nY,i6,qU,by simp[bE],by simp[e1],by simp[e2],by simp[cb],by simp,by simp,by omega,by simp,rfl,aa⟩)
  exact fin 6 3 (.inr rfl) (by omega) (by repeat (first | exact .refl _ | constructor)) (amh ⟨bM,i1,b2,i2,cj,rfl,ep,i4,jN,nY,i6,qU,by simp[bE],by simp[e1],by simp[e2],by simp[cb],by simp,by simp,by omega,by simp,rfl,aa⟩)
 cases x
 ·exact fin 5 4 (.inl rfl) (by omega) (by repeat (first | exact .refl _ | constructor)) (amn ⟨bM,i1,b2,i2,cj,rfl,ep,i4,jN,nY,i6,qU,by simp[bE],by simp[e1],by simp[e2],by simp[cb],aa⟩)
 exact fin 6 4 (.inr rfl) (by omega) (by repeat (first | exact .refl _ | constructor)) (ami ⟨bM,i1,b2,i2,cj,rfl,ep,i4,jN,nY,i6,qU,by simp[bE],by simp[e1],by simp[e2],by simp[cb],aa⟩)
def Dh(p:dd):Prop:=(1<=p.kind/\p.kind<=7)/\(0<=p.a/\p.a<3)/\(0<=p.b/\p.b<3)
theorem al6(b:List Int)(c:dI)(ai:c.ok b):∃(d:dI) (p:dd),d.ok b/\Dh p/\bY prog 242 [.cur (c.e b) (d.e b)] (.vals [.agg p.e]):=by
 obtain⟨d1,k,cC,h1,bM⟩:=kS b c [1,1,1,2,3,3,3,4,4,5,6,6,7] ai (by simp);obtain⟨d2,a,cc,U,b2⟩:=dY b d1 3 cC (by omega);have hk:1<=k/\k<=7:=by
  simp only[eu,mT,or_false]at h1;omega
 by_cases ef:k=4
 ·obtain⟨d3,m,cH,aw,cj⟩:=dY b d2 2 cc (by omega);have uV:ay .i64 (a+1):=⟨by omega,by omega⟩
  have sZ:ay .i64 (a+1+m):=⟨by omega,by omega⟩
  exact⟨d3,⟨k,a,(a+1+m).tmod 3⟩,cH,⟨hk,U,Int.tmod_nonneg _ (by omega),Int.tmod_lt_of_pos _ (by omega)⟩,alN ⟨bM,b2,by simp[ef],alM ⟨uV,cj,sZ,by decide,aa⟩,aa⟩⟩
 by_cases gY:k=5
 ·obtain⟨d3,m,cH,aw,cj⟩:=dY b d2 2 cc (by omega);have uV:ay .i64 (a+1):=⟨by omega,by omega⟩
  have sZ:ay .i64 (a+1+m):=⟨by omega,by omega⟩
  exact⟨d3,⟨k,a,(a+1+m).tmod 3⟩,cH,⟨hk,U,Int.tmod_nonneg _ (by omega),Int.tmod_lt_of_pos _ (by omega)⟩,alP ⟨bM,b2,by simp[ef],by simp[gY],alO ⟨uV,cj,sZ,by decide,aa⟩,aa⟩⟩
 exact⟨d2,⟨k,a,0⟩,cc,⟨hk,U,by dsimp only;omega⟩,alQ ⟨bM,b2,by simp[ef],by simp[gY],aa⟩⟩
theorem Ws(p:dd):Flat [p.e]:=dL fun d aD=>by
 simp only[dd.e,eu,mT,or_false]at aD;rcases aD with rfl | rfl | rfl<;>exact⟨_,rfl⟩
theorem PS(b:List Int)(m:Nat)(hm:m<=1000):∀(n i:Nat) (xs:List dd) (c:dI),i+n=m+1->c.ok b->xs.length<=i->(∀p∈xs,Dh p)->
  ∃(ys:List dd) (d:dI),d.ok b/\ys.length<=m+1/\(∀p∈ys,Dh p)/\c3 prog (aq f120 0) (zu (b.map hK) m i (xs.map dd.e) c.i c.h) (.exit 0) (II (b.map hK) (ys.map dd.e) d.i d.h)
 | n,i,xs,c,nr,ai,al,ag=>by
  obtain⟨d1,k,cC,hk,bM⟩:=dY b c ((m:Int)+1) ai (by omega);by_cases h:(i:Int)<k
  ·match n with
   | 0=>omega
   | n+1=>
    obtain⟨d2,p,cc,hp,b2⟩:=al6 b d1 cC;obtain⟨ys,d,o,fj,fc,l⟩:=PS b m hm n (i+1) (xs++[p]) d2 (by omega) cc (by simp;omega) (fun z bf=>by
     rcases lB.1 bf with bf | bf
     ·exact ag z bf
     rw[List.mem_singleton]at bf;subst bf;exact hp)
    refine⟨ys,d,o,fj,fc,.more ?_ l⟩;rw[hx];exact alR ⟨⟨by omega,by omega⟩,bM,j' h,b2,by simp;omega,by simp;omega,Ws p,⟨by omega,by omega⟩,aa⟩
  exact⟨xs,d1,cC,by omega,ag,.last (cM 0) (alS ⟨⟨by omega,by omega⟩,bM,lE h,aa⟩)⟩
theorem al7(b:List Int)(c:dI)(m:Nat)(hm:m<=1000)(ai:c.ok b):∃(d:dI) (ct:List dd),d.ok b/\ct.length<=m+1/\(∀p∈ct,Dh p)/\bY prog 120 [.cur (c.e b) (d.e b),.ro (.one (I m))] (.vals [.one (.J 3 (ct.map dd.e))]):=by
 obtain⟨ys,d,o,fj,fc,l⟩:=PS b m hm (m+1) 0 [] c (by omega) ai (by simp) (by simp);exact⟨d,ys,o,fj,fc,alT ⟨l,aa⟩⟩
end Go.Proofs.YtdchjefneblpgaaGreat
namespace Go.Proofs.YtdchjefneblpgaaGreat
open Go.Sx Go.RowKit Go.Proofs.Tryz
theorem Kd{α:Type}{f:α->Nat}{k:Nat}:∀{xs:List α},(∀x∈xs,f x<=k)->(xs.map f).sum<=xs.length*k
 | [],_=>by simp
 | a::xs,h=>by
  have h1:=h a (by simp);have U:=Kd (f:=f) (k:=k) (xs:=xs) (fun x ag=>h x (by simp[ag]));simp only[k4,v',dN,fu,Nat.one_mul];omega
theorem Ke{g:bX}{xs:List aG}:nG g xs=true<->eg g=true/\xs.length<=20/\xs.any r7=false:=by
 simp only[nG,cx,cU,hv,and_assoc]
theorem al8{g:bX}{xs:List aG}(h:nG g xs=true):(kU g xs).sz<=g.sz+1000:=by
 obtain⟨h1,U,_⟩:=Ke.1 h;have aW:=nV h1;obtain⟨n,Ch⟩:∃n:Nat,g.az=n:=⟨g.az.toNat,by omega⟩
 have a:=Kd (f:=aS.sz) (k:=92) (xs:=qy g xs n) (fun x ag=>by
  simp only[qy,k5]at ag;obtain⟨w,_,rfl⟩:=ag;have:=PM (g:=g) U (w:Nat);simp only[r8,aS.sz,bW,List.length_replicate];omega)
 have b:=Kd (f:=bD.sz) (k:=0) (xs:=List.replicate (n*n) (pS g.cap)) (fun x ag=>by
  rw[List.eq_of_mem_replicate ag];simp[pS,bD.sz])
 have hm:n*n<=4*4:=Nat.mul_le_mul (by omega) (by omega);simp only[kU,bd.sz,fb,Ch,oR,List.length_replicate,bW,IK]at a b ⊢;omega
theorem Ri(g:bX)(xs:List aG):gA (kU g xs):=by
 intro l al;have:=List.eq_of_mem_replicate al;subst this;simp[pS]
end Go.Proofs.YtdchjefneblpgaaGreat
namespace Go.Proofs.YtdchjefneblpgaaGreat
open Go.Sx Go.RowKit Go.Proofs.Tryz
theorem lF.size{g:bX}(h:lF g):g.sz<=100:=by
 obtain⟨⟨k,a,b,c,v,hk,ah,ar,ai,bt,aW⟩,hw,fE⟩:=h;obtain⟨nodes,az,cap⟩:=g;simp only at aW;subst aW;have e:(⟨oJ k a b c v,az,cap⟩:bX).sz=fb Node.sz (oJ k a b c v):=rfl;rw[e];have bi:v=0\/v=1\/v=2\/v=3\/v=4:=by omega
 rcases bi with rfl | rfl | rfl | rfl | rfl<;>simp[fb,oJ,xw,Node.sz]
theorem Input.Wp{r:aG}(h:Input r):r7 r=false:=by
 obtain⟨h1,U,aw,aH,aU⟩:=h;have ok:e4 r=true:=by
  simp only[e4,hq,eZ,ap,cx,cU,h1,U];omega
 simp[r7,ok,h1,U]
theorem alz{g:bX}{xs:List aG}(au:lF g)(al:xs.length<=6)(ag:∀r∈xs,Input r):nG g xs=true:=
 Ke.2 ⟨au.ok,by omega,hj.2 fun r aA=>by simp[(ag r aA).Wp]⟩
end Go.Proofs.YtdchjefneblpgaaGreat
namespace Go.Proofs.YtdchjefneblpgaaGreat
open Go.Sx Go.RowKit Go.Proofs.Tryz
def Fair(r:aG):Prop:=(0<=r.op/\r.op<5)/\(0<=r.bw.bc/\r.bw.bc<4)/\(0<=r.bw.ec/\r.bw.ec<5)/\(0<=r.key/\r.key<12)/\(0<=r.val/\r.val<40)
theorem uU{n:Int}(h1:-9223372036854775808<=n)(U:n<=9223372036854775807):ay .i64 n:=⟨h1,U⟩
theorem Fair.wf{r:aG}(h:Fair r):r.wf:=by
 obtain⟨h1,U,aw,aH,aU⟩:=h;exact⟨uU (by omega) (by omega),⟨uU (by omega) (by omega),uU (by omega) (by omega)⟩,uU (by omega) (by omega),uU (by omega) (by omega)⟩
theorem Rj(b:List Int)(c:dI)(ai:c.ok b):∃(d:dI) (s:gB),d.ok b/\((0<=s.bc/\s.bc<4)/\(0<=s.ec/\s.ec<5))/\bY prog 325 [.cur (c.e b) (d.e b)] (.vals [.agg s.e]):=by
 obtain⟨d1,x,cC,h1,bM⟩:=dY b c 4 ai (by omega);obtain⟨d2,y,cc,U,b2⟩:=dY b d1 5 cC (by omega);exact⟨d2,⟨x,y⟩,cc,⟨h1,U⟩,akC ⟨bM,b2,aa⟩⟩
theorem zv{n:Int}{xs:List Int}(h:n∈xs)(ag:(xs.all fun x=>decide (-9223372036854775808<=x)&&decide (x<=9223372036854775807))=true):ay .i64 n:=by
 have:=fA.1 ag n h;simp only[cx,cU]at this;exact this
theorem alA(b:List Int)(c:dI)(ai:c.ok b):∃(d:dI) (s:gB),d.ok b/\s.wf/\bY prog 272 [.cur (c.e b) (d.e b)] (.vals [.agg s.e]):=by
 obtain⟨d1,s,cC,⟨h1,U⟩,bM⟩:=Rj b c ai;obtain⟨d2,k,cc,aw,b2⟩:=dY b d1 10 cC (by omega);have w1:ay .i64 s.bc:=uU (by omega) (by omega);have j9:ay .i64 s.ec:=uU (by omega) (by omega);by_cases bE:k=0
 ·obtain⟨d3,x,cH,aH,cj⟩:=kS b d2 [-1,3,4,9223372036854775807] cc (by simp);exact⟨d3,⟨x,s.ec⟩,cH,⟨zv aH (by decide),j9⟩,akD ⟨bM,b2,by simp[bE],cj,aa⟩⟩
 by_cases e1:k=1
 ·obtain⟨d3,x,cH,aH,cj⟩:=kS b d2 [-1,5,6,7,-9223372036854775808] cc (by simp);exact⟨d3,⟨s.bc,x⟩,cH,⟨w1,zv aH (by decide)⟩,akE ⟨bM,b2,by simp[bE],by simp[e1],cj,aa⟩⟩
 exact⟨d2,s,cc,⟨w1,j9⟩,akF ⟨bM,b2,by simp[bE],by simp[e1],aa⟩⟩
theorem Di(b:List Int)(c:dI)(ai:c.ok b):∃(d:dI) (r:aG),d.ok b/\Fair r/\bY prog 271 [.cur (c.e b) (d.e b)] (.vals [.agg r.e]):=by
 obtain⟨d1,x,cC,h1,bM⟩:=dY b c 5 ai (by omega);obtain⟨d2,s,cc,⟨U,aw⟩,b2⟩:=Rj b d1 cC;obtain⟨d3,k,cH,aH,cj⟩:=dY b d2 12 cc (by omega);obtain⟨d4,v,fr,aU,ep⟩:=dY b d3 40 cH (by omega);exact⟨d4,⟨x,s,k,v⟩,fr,⟨h1,U,aw,aH,aU⟩,akG ⟨bM,b2,cj,ep,aa⟩⟩
theorem Rk(b:List Int)(c:dI)(ai:c.ok b):∃(d:dI) (r:aG),d.ok b/\r.wf/\bY prog 178 [.cur (c.e b) (d.e b)] (.vals [.agg r.e]):=by
 obtain⟨d1,r,cC,aA,bM⟩:=Di b c ai;obtain⟨w1,j9,LB,LC⟩:=aA.wf;obtain⟨d2,k,cc,aw,b2⟩:=dY b d1 12 cC (by omega);by_cases bE:k=0
 ·obtain⟨d3,x,cH,aH,cj⟩:=kS b d2 [-1,7,8] cc (by simp);exact⟨d3,⟨x,r.bw,r.key,r.val⟩,cH,⟨zv aH (by decide),j9,LB,LC⟩,al9 ⟨bM,b2,by simp[bE],cj,aa⟩⟩
 by_cases e1:k=1
 ·obtain⟨d3,s,cH,aH,cj⟩:=alA b d2 cc;exact⟨d3,⟨r.op,s,r.key,r.val⟩,cH,⟨w1,aH,LB,LC⟩,ama ⟨bM,b2,by simp[bE],by simp[e1],cj,aa⟩⟩
 by_cases e2:k=2
 ·obtain⟨d3,x,cH,aH,cj⟩:=kS b d2 [-1,99,100,-9223372036854775808] cc (by simp);exact⟨d3,⟨r.op,r.bw,x,r.val⟩,cH,⟨w1,j9,zv aH (by decide),LC⟩,amb ⟨bM,b2,by simp[bE],by simp[e1],by simp[e2],cj,aa⟩⟩
 by_cases cb:k=3
 ·obtain⟨d3,x,cH,aH,cj⟩:=kS b d2 [-1,999,1000,9223372036854775807] cc (by simp);exact⟨d3,⟨r.op,r.bw,r.key,x⟩,cH,⟨w1,j9,LB,zv aH (by decide)⟩,amc ⟨bM,b2,by simp[bE],by simp[e1],by simp[e2],by simp[cb],cj,aa⟩⟩
 exact⟨d2,r,cc,aA.wf,amd ⟨bM,b2,by simp[bE],by simp[e1],by simp[e2],by simp[cb],aa⟩⟩
theorem FF(r:aG):Flat [r.e]:=dL fun d aD=>by
 simp only[aG.e,eu,mT,or_false]at aD;rcases aD with rfl | rfl | rfl | rfl | rfl<;>exact⟨_,rfl⟩
