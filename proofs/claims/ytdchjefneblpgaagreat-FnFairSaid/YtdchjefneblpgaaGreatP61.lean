import Derived.Test.YtdchjefneblpgaaGreatT5
import Derived.Test.YtdchjefneblpgaaGreatR35
import Derived.Test.YtdchjefneblpgaaGreatGD
import Derived.Test.YtdchjefneblpgaaGreatP86
set_option linter.unusedVariables false
set_option linter.unusedSimpArgs false
namespace Go.Proofs.YtdchjefneblpgaaGreat
open Go.Sx Go.RowKit Go.Proofs.Tryz
def hY(n:Int):List D:=[.v (.int .u8 n)]
structure dW where
 i:Int
 h:Int
def dW.e(b:List Int)(c:dW):List D:=[.J 1 (b.map hY),I c.i,I c.h]
def Bytes(b:List Int):Prop:=b.length<=8388608/\∀x∈b,0<=x/\x<=255
def dW.ok(b:List Int)(c:dW):Prop:=Bytes b/\0<=c.i/\c.i<=b.length
theorem aBB{P:Program}{t:TypeId}{ds:List D}(hu:P.underlying t=some (.int .u8))(h:kx P t ds):∃n,ds=hY n/\0<=n/\n<=255:=by
 have U:∃n,ds=[.v (.int .u8 n)]/\(Lit.int .u8 n).wf=true:=by cases h<;>simp_all
 obtain⟨n,e,hw⟩:=U;refine⟨n,e,?_⟩;simp[Lit.wf]at hw;have aA:IntKind.u8.min=0:=rfl;rw[aA]at hw;exact hw
theorem ahP:prog.cellsOf 5=1:=by kernel_rfl
theorem ahQ{ds:List D}(h:kx prog 22 ds):∃xs:List Int,ds=[.J 1 (xs.map hY)]/\(xs.length:Int)<=9223372036854775807/\∀a∈xs,(fun n=>0<=n/\n<=255) a:=
 ayb hY (fun n=>0<=n/\n<=255) Tryz.underlying22 ahP (fun ds h=>aBB Tryz.underlying5 h) h
theorem ahR{cy:cP}(h:EA prog 22 cy):∃xs:List Int,cy=.one (.J 1 (xs.map hY))/\(xs.length:Int)<=9223372036854775807/\∀a∈xs,(fun n=>0<=n/\n<=255) a:=by
 cases cy with
 | agg ds=>have:=h.2;simp[ti,Tryz.underlying22]at this
 | one d=>
  obtain⟨x,e,af⟩:=ahQ h.1;grind
theorem VB{P:Program}(a:Int)(n:Nat):∃m:Int,∀t x y,m' P .shr t x y (.int .i64 a) (.int .u64 (n:Int)) (.int .i64 m):=⟨_,fun _ _ _=>agl⟩
theorem ahS{P:Program}(a b:Int):∃m:Int,∀t x y,m' P .xor t x y (.int .i64 a) (.int .i64 b) (.int .i64 m):=⟨_,fun _ _ _=>agm⟩
theorem N6{P:Program}(a:Int)(k:Nat)(hk:k<2 ^ 62):∃m:Int,(0<=m/\m<=k)/\∀t x y,m' P .and t x y (.int .i64 a) (.int .i64 (k:Int)) (.int .i64 m):=⟨_,ago a k hk,fun _ _ _=>agn⟩
theorem VC(b:List Int)(aw:Bytes b):∀(n i:Nat) (h:Int),i+n=b.length->0<=h/\h<=1073741823->∃kB,c8 prog (ap f117 0) (Aw (b.map hY) i h) (.exit 0) (Hq (b.map hY) kB)
 | 0,i,h,hi,bN=>⟨h,.last (cn 0) (agr ⟨by grind,aa⟩)⟩
 | n+1,i,h,hi,bN=>by
  have al:=aw.1;obtain⟨x,af⟩:=c4 (xs:=b) (i:=i) (by omega);have aw:=aw.2 x (c9 af);by_cases aJ:(i:Int)<4000
  ·obtain⟨m,hm,r⟩:=N6 (P:=prog) (h*131+x+7) 1073741823 (by decide);obtain⟨kB,l⟩:=VC b ‹Bytes b› n (i+1) m (by omega) hm;exact⟨kB,.more (agp ⟨b5 (by omega),lg aJ,⟨by omega,by omega⟩,bA,bH (by omega),bC hY af,⟨by omega,by omega⟩,⟨by omega,by omega⟩,⟨by omega,by omega⟩,r _ _ _,⟨by omega,by omega⟩,aa⟩) l⟩
  exact⟨h,.last (cn 0) (agq ⟨b5 (by omega),oL aJ,aa⟩)⟩
theorem Hs(b:List Int)(aw:Bytes b):∃c:dW,c.ok b/\b2 prog 117 [.ro (.one (.J 1 (b.map hY)))] (.iM [some 0,none,none] (c.e b)):=by
 have al:=aw.1;obtain⟨kB,l⟩:=VC b aw b.length 0 (94701+(↑(b.map hY).length:Int)) (by omega) ⟨by omega,by simp;omega⟩;exact⟨⟨0,kB⟩,⟨aw,by grind,by grind⟩,ags ⟨⟨by omega,by simp;omega⟩,l,aa⟩⟩
theorem Ht(b:List Int)(c:dW)(ak:c.ok b):∃(d:dW) (n:Int),d.ok b/\(0<=n/\n<=255)/\b2 prog 253 [.cur (c.e b) (d.e b)] (.vals [.one (I n)]):=by
 obtain⟨⟨h1,U⟩,aA,aJ⟩:=ak;obtain⟨kM,ci⟩:=VB (P:=prog) (IntKind.i64.wrap (IntKind.i64.wrap (c.h*6364136223846793005)+1442695040888963407)) 33;obtain⟨jz,eA⟩:=VB (P:=prog) (IntKind.i64.wrap (IntKind.i64.wrap (c.h*6364136223846793005)+1442695040888963407)) 45;obtain⟨k7,j7⟩:=ahS (P:=prog) kM jz;obtain⟨n6,m6,pJ⟩:=N6 (P:=prog) k7 255 (by decide);by_cases hi:c.i<b.length
 ·obtain⟨x,af⟩:=c4 (xs:=b) (i:=c.i.toNat) (by omega);have aw:=U x (c9 af);obtain⟨n8,m8,aBi⟩:=N6 (P:=prog) (IntKind.i64.wrap (n6+IntKind.i64.wrap x)) 255 (by decide);exact⟨⟨c.i+1,IntKind.i64.wrap (IntKind.i64.wrap (c.h*6364136223846793005)+1442695040888963407)⟩,n8,⟨⟨h1,U⟩,by grind,by grind⟩,m8,agt ⟨ci _ _ _,eA _ _ _,j7 _ _ _,pJ _ _ _,by grind,aA,by grind,by rw[dK,af];rfl,aBi _ _ _,⟨by omega,by omega⟩,aa⟩⟩
 exact⟨⟨c.i,IntKind.i64.wrap (IntKind.i64.wrap (c.h*6364136223846793005)+1442695040888963407)⟩,n6,⟨⟨h1,U⟩,aA,aJ⟩,m6,ahU ⟨ci _ _ _,eA _ _ _,j7 _ _ _,pJ _ _ _,by grind,aa⟩⟩
theorem ek(b:List Int)(c:dW)(k:Int)(ak:c.ok b)(hk:1<=k/\k<=1000000):∃(d:dW) (n:Int),d.ok b/\(0<=n/\n<k)/\b2 prog 138 [.cur (c.e b) (d.e b),.ro (.one (I k))] (.vals [.one (I n)]):=by
 have md:∀m:Int,0<=m->0<=m.tmod k/\m.tmod k<k:=fun m hm=>⟨Int.tmod_nonneg _ hm,Int.tmod_lt_of_pos m (by omega)⟩
 obtain⟨d1,h5,cC,fb,bx⟩:=Ht b c ak;by_cases h:k<=256
 ·exact⟨d1,_,cC,md h5 fb.1,ahV ⟨oL (by omega),lg h,bx,by omega,aa⟩⟩
 obtain⟨d2,iy,cg,fY,b0⟩:=Ht b d1 cC;obtain⟨d3,kM,cL,r8,ci⟩:=Ht b d2 cg;obtain⟨d4,jz,fo,I1,eA⟩:=Ht b d3 cL;exact⟨d4,_,fo,md _ (by omega),ahW ⟨oL (by omega),oL h,bx,b0,ci,eA,⟨by omega,by omega⟩,⟨by omega,by omega⟩,⟨by omega,by omega⟩,⟨by omega,by omega⟩,⟨by omega,by omega⟩,⟨by omega,by omega⟩,by omega,aa⟩⟩
theorem Ax(b:List Int)(c:dW)(k:Int)(ak:c.ok b)(hk:1<=k/\k<=1000000):∃(d:dW) (x:Bool),d.ok b/\b2 prog 136 [.cur (c.e b) (d.e b),.ro (.one (I k))] (.vals [.one (B x)]):=by
 obtain⟨d,n,o,_,r⟩:=ek b c k ak hk;exact⟨d,_,o,ahX ⟨r,aa⟩⟩
theorem mu(b:List Int)(c:dW)(xs:List Int)(ak:c.ok b)(hk:1<=xs.length/\xs.length<=1000):∃(d:dW) (n:Int),d.ok b/\n∈xs/\b2 prog 140 [.cur (c.e b) (d.e b),.ro (.one (.J 1 (xs.map bc)))] (.vals [.one (I n)]):=by
 obtain⟨d,n,o,aw,r⟩:=ek b c (xs.length:Int) ak (by omega);obtain⟨x,af⟩:=c4 (xs:=xs) (i:=n.toNat) (by omega);refine⟨d,x,o,c9 af,ahY ⟨?_,aw.1,by grind,by rw[dK,af];rfl,aa⟩⟩;rw[ct];exact r
end Go.Proofs.YtdchjefneblpgaaGreat
namespace Go.Proofs.YtdchjefneblpgaaGreat
open Go.Sx Go.RowKit Go.Proofs.Tryz
def Input(r:az):Prop:=r.op=0/\r.bi.dg=0/\(0<=r.bi.a8/\r.bi.a8<=2)/\(0<=r.key/\r.key<12)/\(0<=r.val/\r.val<40)
theorem VD(b:List Int):∀(n i:Nat) (e:Int) (xs:List az) (c:dW),i+n=5->c.ok b->(0<=e/\e<=2)->xs.length<=i->(∀r∈xs,Input r)->
  ∃(ys:List az) (d:dW),d.ok b/\ys.length<=5/\(∀r∈ys,Input r)/\c8 prog (ap f119 0) (CU (b.map hY) i e (xs.map az.e) c.i c.h) (.exit 0) (N0 (b.map hY) (ys.map az.e) d.i d.h)
 | n,i,e,xs,c,iI,ak,he,al,af=>by
  obtain⟨d1,m,cC,aw,bx⟩:=ek b c 6 ak (by omega);by_cases h:(i:Int)<m
  ·match n with
   | 0=>omega
   | n+1=>
    obtain⟨d2,a,cg,ai,b0⟩:=ek b d1 2 cC (by omega);obtain⟨d3,k,cL,hk,ci⟩:=ek b d2 12 cg (by omega);obtain⟨d4,v,fo,bI,eA⟩:=ek b d3 40 cL (by omega);have pZ:=He (e+a) 0 2;have Q9:0<=fT (e+a) 0 2/\fT (e+a) 0 2<=2:=by
     unfold fT;simp only[show ¬(2:Int)<0 by omega,l7];split<;>(try split)<;>omega
    obtain⟨ys,d,o,eB,eV,l⟩:=VD b n (i+1) (fT (e+a) 0 2) (xs++[⟨0,⟨fT (e+a) 0 2,0⟩,k,v⟩]) d4 (by omega) fo Q9 (by simp;omega) (fun r aD=>by
     rcases ia.1 aD with aD | aD
     ·exact af r aD
     rw[List.mem_singleton]at aD;subst aD;exact⟨rfl,rfl,Q9,hk,bI⟩)
    refine⟨ys,d,o,eB,eV,.more ?_ l⟩;rw[gi];exact ahE ⟨bx,lg h,b0,⟨by omega,by omega⟩,pZ,ci,eA,by simp;omega,by simp;omega,fE (fun d aE=>by simp only[eH,pW,or_false]at aE;rcases aE with rfl | rfl | rfl | rfl | rfl<;>exact⟨_,rfl⟩),⟨by omega,by omega⟩,aa⟩
  exact⟨xs,d1,cC,by omega,af,.last (cn 0) (ahF ⟨bx,oL h,aa⟩)⟩
theorem Nf(b:List Int)(c:dW)(ak:c.ok b):∃(d:dW) (xs:List az),d.ok b/\xs.length<=5/\(∀r∈xs,Input r)/\b2 prog 119 [.cur (c.e b) (d.e b)] (.vals [.one (.J 5 (xs.map az.e))]):=by
 obtain⟨ys,d,o,eB,eV,l⟩:=VD b 5 0 0 [] c rfl ak (by omega) (by simp) (by simp);exact⟨d,ys,o,eB,eV,ahG ⟨l,aa⟩⟩
end Go.Proofs.YtdchjefneblpgaaGreat
namespace Go.Proofs.YtdchjefneblpgaaGreat
open Go.Sx Go.RowKit Go.Proofs.Tryz
def sT(k a b:Int):List Node:=[⟨1,0,0,[1]⟩,⟨k,0,0,[2,5]⟩,⟨4,1+a,0,[3]⟩,⟨2,b,0,[4]⟩,⟨7,0,0,[1]⟩,⟨8,0,0,[]⟩]
def la(k a b c:Int):Nat->List Node
 | 0=>(sT k a b).set 3 ⟨3,1+c,0,[4]⟩
 | 1=>(sT k a b).set 4 ⟨8,0,0,[]⟩
 | 2=>(sT k a b).set 2 ⟨4,1+a,0,[3,4]⟩
 | 3=>(sT k a b++[(⟨8,0,0,[]⟩:Node)]).set 0 ⟨1,0,0,[1,6]⟩
 | _=>sT k a b
structure kW (g:bV):Prop where
 nodes:∃(k a b c:Int) (v:Nat),(k=5\/k=6)/\(0<=a/\a<3)/\(0<=b/\b<4)/\(0<=c/\c<3)/\v<=4/\g.nodes=la k a b c v
 ar:1<=g.ar/\g.ar<=3
 cap:1<=g.cap/\g.cap<=3
theorem kW.ok{g:bV}(h:kW g):eh g=true:=by
 obtain⟨⟨k,a,b,c,v,hk,ai,aw,ak,bI,aZ⟩,hw,fZ⟩:=h;obtain⟨nodes,ar,cap⟩:=g;simp only at aZ hw fZ;have aCr:a=0\/a=1\/a=2:=by omega
 have aCs:b=0\/b=1\/b=2\/b=3:=by omega
 have aCt:c=0\/c=1\/c=2:=by omega
 have bq:v=0\/v=1\/v=2\/v=3\/v=4:=by omega
 have aCw:ar=1\/ar=2\/ar=3:=by omega
 have ep:cap=1\/cap=2\/cap=3:=by omega
 have key:∀k∈[(5:Int),6],∀a∈[(0:Int),1,2],∀b∈[(0:Int),1,2,3],∀c∈[(0:Int),1,2],∀v∈[0,1,2,3,4],(!(anyI (jD ⟨la k a b c v,1,1⟩) 0 (la k a b c v))&&decide ((la k a b c v).length<=7)&&decide (1<=(la k a b c v).length))=true:=by decide +kernel
 have:=key k (by grind) a (by grind) b (by grind) c (by grind) v (by rcases bq with h | h | h | h | h<;>simp[h]);simp only[cw,ck]at this;obtain⟨⟨h1,U⟩,aA⟩:=this;subst aZ;have ac6:jD ⟨la k a b c v,ar,cap⟩=jD ⟨la k a b c v,1,1⟩:=rfl;unfold eh;simp only[cw];rw[ac6];refine⟨⟨⟨?_,?_⟩,?_⟩,h1⟩
 ·simp only[av,cw,ck];omega
 ·simp only[av,cw,ck];omega
 simp only[av,cw,ck];omega
theorem Ng(b:List Int)(c:dW)(ak:c.ok b):∃(d:dW) (g:bV),d.ok b/\kW g/\b2 prog 118 [.cur (c.e b) (d.e b)] (.vals [.agg g.e]):=by
 obtain⟨d1,h5,cC,h1,bx⟩:=ek b c 3 ak (by omega);obtain⟨d2,iy,cg,U,b0⟩:=ek b d1 3 cC (by omega);obtain⟨d3,x,cL,ci⟩:=Ax b d2 3 cg (by omega);obtain⟨d4,jz,fo,aJ,eA⟩:=ek b d3 3 cL (by omega);obtain⟨d5,k7,rr,a',j7⟩:=ek b d4 4 fo (by omega);obtain⟨d6,n6,ad9,bu,pJ⟩:=ek b d5 3 rr (by omega);obtain⟨d7,n7,aea,b1,s4⟩:=ek b d6 6 ad9 (by omega);have i1:aL .i64 (1+h5):=⟨by omega,by omega⟩
 have i2:aL .i64 (1+iy):=⟨by omega,by omega⟩
 have i4:aL .i64 (1+jz):=⟨by omega,by omega⟩
 have i6:aL .i64 (1+n6):=⟨by omega,by omega⟩
 have fin:∀(k:Int) (v:Nat) {ds:List (List D)},(k=5\/k=6)->v<=4->np ds ((la k jz k7 n6 v).map Node.e)->b2 prog 118 [.cur (c.e b) (d7.e b)] (.vals [.agg [.J 4 ds,I (1+h5),I (1+iy)]])->
   ∃(d:dW) (g:bV),d.ok b/\kW g/\b2 prog 118 [.cur (c.e b) (d.e b)] (.vals [.agg g.e]):=by
  intro k v ds hk bI bF aD;exact⟨d7,⟨la k jz k7 n6 v,1+h5,1+iy⟩,aea,⟨⟨k,jz,k7,n6,v,hk,aJ,a',bu,bI,rfl⟩,by grind,by grind⟩,
   aD.fit (.cons (.agg (.cons (.J 4 bF) (lj.refl _))) .nil)⟩
 have f1:∀d,Fit d d:=.refl;by_cases bE:n7=0
 ·cases x
  ·exact fin 5 0 (.inl rfl) (by omega) (by repeat (first | exact .refl _ | constructor)) (aie ⟨bx,i1,b0,i2,ci,rfl,eA,i4,j7,pJ,i6,s4,by simp[bE],by omega,by simp,rfl,aa⟩)
  exact fin 6 0 (.inr rfl) (by omega) (by repeat (first | exact .refl _ | constructor)) (ah9 ⟨bx,i1,b0,i2,ci,rfl,eA,i4,j7,pJ,i6,s4,by simp[bE],by omega,by simp,rfl,aa⟩)
 by_cases e1:n7=1
 ·cases x
  ·exact fin 5 1 (.inl rfl) (by omega) (by repeat (first | exact .refl _ | constructor)) (aif ⟨bx,i1,b0,i2,ci,rfl,eA,i4,j7,pJ,i6,s4,by simp[bE],by simp[e1],by omega,by simp,rfl,aa⟩)
  exact fin 6 1 (.inr rfl) (by omega) (by repeat (first | exact .refl _ | constructor)) (aia ⟨bx,i1,b0,i2,ci,rfl,eA,i4,j7,pJ,i6,s4,by simp[bE],by simp[e1],by omega,by simp,rfl,aa⟩)
 by_cases e2:n7=2
 ·cases x
  ·exact fin 5 2 (.inl rfl) (by omega) (by repeat (first | exact .refl _ | constructor)) (aih ⟨bx,i1,b0,i2,ci,rfl,eA,i4,j7,pJ,i6,s4,by simp[bE],by simp[e1],by simp[e2],by omega,by simp,rfl,aa⟩)
  exact fin 6 2 (.inr rfl) (by omega) (by repeat (first | exact .refl _ | constructor)) (aib ⟨bx,i1,b0,i2,ci,rfl,eA,i4,j7,pJ,i6,s4,by simp[bE],by simp[e1],by simp[e2],by omega,by simp,rfl,aa⟩)
 by_cases cj:n7=3
 ·cases x
  ·exact fin 5 3 (.inl rfl) (by omega) (by repeat (first | exact .refl _ | constructor)) (aii ⟨bx,i1,b0,i2,ci,rfl,eA,i4,j7,pJ,i6,s4,by simp[bE],by simp[e1],by simp[e2],by simp[cj],by simp,by simp,by omega,by simp,rfl,aa⟩)
  exact fin 6 3 (.inr rfl) (by omega) (by repeat (first | exact .refl _ | constructor)) (aic ⟨bx,i1,b0,i2,ci,rfl,eA,i4,j7,pJ,i6,s4,by simp[bE],by simp[e1],by simp[e2],by simp[cj],by simp,by simp,by omega,by simp,rfl,aa⟩)
 cases x
 ·exact fin 5 4 (.inl rfl) (by omega) (by repeat (first | exact .refl _ | constructor)) (aij ⟨bx,i1,b0,i2,ci,rfl,eA,i4,j7,pJ,i6,s4,by simp[bE],by simp[e1],by simp[e2],by simp[cj],aa⟩)
 exact fin 6 4 (.inr rfl) (by omega) (by repeat (first | exact .refl _ | constructor)) (aid ⟨bx,i1,b0,i2,ci,rfl,eA,i4,j7,pJ,i6,s4,by simp[bE],by simp[e1],by simp[e2],by simp[cj],aa⟩)
def Hu(p:b'):Prop:=(1<=p.kind/\p.kind<=7)/\(0<=p.a/\p.a<3)/\(0<=p.b/\p.b<3)
theorem ahT(b:List Int)(c:dW)(ak:c.ok b):∃(d:dW) (p:b'),d.ok b/\Hu p/\b2 prog 242 [.cur (c.e b) (d.e b)] (.vals [.agg p.e]):=by
 obtain⟨d1,k,cC,h1,bx⟩:=mu b c [1,1,1,2,3,3,3,4,4,5,6,6,7] ak (by simp);obtain⟨d2,a,cg,U,b0⟩:=ek b d1 3 cC (by omega);have hk:1<=k/\k<=7:=by
  simp only[eH,pW,or_false]at h1;omega
 by_cases d':k=4
 ·obtain⟨d3,m,cL,aA,ci⟩:=ek b d2 2 cg (by omega);have qj:aL .i64 (a+1):=⟨by omega,by omega⟩
  have o':aL .i64 (a+1+m):=⟨by omega,by omega⟩
  exact⟨d3,⟨k,a,(a+1+m).tmod 3⟩,cL,⟨hk,U,Int.tmod_nonneg _ (by omega),Int.tmod_lt_of_pos _ (by omega)⟩,ahI ⟨bx,b0,by simp[d'],ahH ⟨qj,ci,o',by decide,aa⟩,aa⟩⟩
 by_cases hj:k=5
 ·obtain⟨d3,m,cL,aA,ci⟩:=ek b d2 2 cg (by omega);have qj:aL .i64 (a+1):=⟨by omega,by omega⟩
  have o':aL .i64 (a+1+m):=⟨by omega,by omega⟩
  exact⟨d3,⟨k,a,(a+1+m).tmod 3⟩,cL,⟨hk,U,Int.tmod_nonneg _ (by omega),Int.tmod_lt_of_pos _ (by omega)⟩,ahK ⟨bx,b0,by simp[d'],by simp[hj],ahJ ⟨qj,ci,o',by decide,aa⟩,aa⟩⟩
 exact⟨d2,⟨k,a,0⟩,cg,⟨hk,U,by grind⟩,ahL ⟨bx,b0,by simp[d'],by simp[hj],aa⟩⟩
theorem abN(p:b'):Flat [p.e]:=fE fun d aE=>by
 simp only[b'.e,eH,pW,or_false]at aE;grind
theorem VE(b:List Int)(m:Nat)(hm:m<=1000):∀(n i:Nat) (xs:List b') (c:dW),i+n=m+1->c.ok b->xs.length<=i->(∀p∈xs,Hu p)->
  ∃(ys:List b') (d:dW),d.ok b/\ys.length<=m+1/\(∀p∈ys,Hu p)/\c8 prog (ap f120 0) (CV (b.map hY) m i (xs.map b'.e) c.i c.h) (.exit 0) (N5 (b.map hY) (ys.map b'.e) d.i d.h)
 | n,i,xs,c,iI,ak,al,af=>by
  obtain⟨d1,k,cC,hk,bx⟩:=ek b c ((m:Int)+1) ak (by omega);by_cases h:(i:Int)<k
  ·match n with
   | 0=>omega
   | n+1=>
    obtain⟨d2,p,cg,hp,b0⟩:=ahT b d1 cC;obtain⟨ys,d,o,eB,eV,l⟩:=VE b m hm n (i+1) (xs++[p]) d2 (by omega) cg (by simp;omega) (fun z bd=>by
     grind)
    refine⟨ys,d,o,eB,eV,.more ?_ l⟩;rw[gi];exact ahM ⟨⟨by omega,by omega⟩,bx,lg h,b0,by simp;omega,by simp;omega,abN p,⟨by omega,by omega⟩,aa⟩
  exact⟨xs,d1,cC,by omega,af,.last (cn 0) (ahN ⟨⟨by omega,by omega⟩,bx,oL h,aa⟩)⟩
theorem VF(b:List Int)(c:dW)(m:Nat)(hm:m<=1000)(ak:c.ok b):∃(d:dW) (cz:List b'),d.ok b/\cz.length<=m+1/\(∀p∈cz,Hu p)/\b2 prog 120 [.cur (c.e b) (d.e b),.ro (.one (I m))] (.vals [.one (.J 3 (cz.map b'.e))]):=by
 obtain⟨ys,d,o,eB,eV,l⟩:=VE b m hm (m+1) 0 [] c (by omega) ak (by simp) (by simp);exact⟨d,ys,o,eB,eV,ahO ⟨l,aa⟩⟩
end Go.Proofs.YtdchjefneblpgaaGreat
namespace Go.Proofs.YtdchjefneblpgaaGreat
open Go.Sx Go.RowKit Go.Proofs.Tryz
theorem kW.size{g:bV}(h:kW g):g.sz<=100:=by
 obtain⟨⟨k,a,b,c,v,hk,ai,aw,ak,bI,aZ⟩,hw,fZ⟩:=h;obtain⟨nodes,ar,cap⟩:=g;simp only at aZ;subst aZ;have e:(⟨la k a b c v,ar,cap⟩:bV).sz=fs Node.sz (la k a b c v):=rfl;rw[e];have bq:v=0\/v=1\/v=2\/v=3\/v=4:=by omega
 rcases bq with rfl | rfl | rfl | rfl | rfl<;>simp[fs,la,sT,Node.sz]
theorem Input.qS{r:az}(h:Input r):sI r=false:=by
 obtain⟨h1,U,aA,aJ,a'⟩:=h;have ok:eJ r=true:=by
  simp only[eJ,h6,fy,av,cw,ck,h1,U];omega
 simp[sI,ok,h1,U]
theorem Gz{g:bV}{xs:List az}(ax:kW g)(al:xs.length<=6)(af:∀r∈xs,Input r):mo g xs=true:=
 Aa.2 ⟨ax.ok,by omega,ft.2 fun r aD=>by simp[(af r aD).qS]⟩
end Go.Proofs.YtdchjefneblpgaaGreat
namespace Go.Proofs.YtdchjefneblpgaaGreat
open Go.Sx Go.RowKit Go.Proofs.Tryz
def mZ(x:aK)(e:Int):cx×Bool:=
 match x.bZ.find? (fun d=>d.a8==e) with
 | some d=>(d,true)
 | none=>(⟨0,false⟩,false)
theorem ahk(x:aK)(e:Int)(af:x.sz<=8388608):aq 17 [.agg x.e,.one (I e)] [.agg (mZ x e).1.e,.one (B (mZ x e).2)]:=by
 have al:x.bZ.length<=8388608:=by simp only[aK.sz]at af;omega
 let st:=fun i:Nat=>xi e i 0 false (x.queue.map az.e) (x.b8.map az.e) (x.bR.map az.e) (x.cells.map Cell.e) (x.bB.map bc) (x.bL.map cv) (x.bj.map cv) (x.bZ.map cx.e)
 have step:∀i,i<x.bZ.length->(∀b,x.bZ[i]?=some b->(b.a8==e)=false)->fX prog (ap f17 0) (st i) .normal (st (i+1)):=by
  intro i hi h;obtain⟨a,ai⟩:=c4 hi;exact ayO ⟨b5 hi,bA,bH hi,bC cx.e ai,h a ai,db hi al,aa⟩
 rcases FN (fun d:cx=>d.a8==e) x.bZ with⟨h1,U⟩ | ⟨i,a,h1,U,aA,aJ⟩
 ·simp only[mZ,h1];have l:=dY (cn 0) x.bZ.length st (fun i hi=>step i hi fun b aw=>U b (c9 aw)) (ayP ⟨dw,aa⟩);exact ayR ⟨l,aa⟩
 simp only[mZ,aA];have hi:=a1 h1;have l:=dY e5 i st (fun j bk=>step j (by omega) fun b aw=>aJ j b bk aw) (ayN ⟨b5 hi,bA,bH hi,bC cx.e h1,U,bA,bH hi,bC cx.e h1,aa⟩);exact ayQ ⟨l,aa⟩
theorem ahl(x:aK)(e:Int)(af:x.sz<=8388608):aq 139 [.agg x.e,.one (I e)] [.agg (mZ x e).1.e,.one (B (mZ x e).2)]:=by
 have al:x.bZ.length<=8388608:=by simp only[aK.sz]at af;omega
 let st:=fun i:Nat=>xj (x.bZ.map cx.e) e i 0 false
 have step:∀i,i<x.bZ.length->(∀b,x.bZ[i]?=some b->(b.a8==e)=false)->fX prog (ap f139 0) (st i) .normal (st (i+1)):=by
  intro i hi h;obtain⟨a,ai⟩:=c4 hi;exact ayj ⟨b5 hi,bA,bH hi,bC cx.e ai,h a ai,db hi al,aa⟩
 rcases FN (fun d:cx=>d.a8==e) x.bZ with⟨h1,U⟩ | ⟨i,a,h1,U,aA,aJ⟩
 ·simp only[mZ,h1];have l:=dY (cn 0) x.bZ.length st (fun i hi=>step i hi fun b aw=>U b (c9 aw)) (ayk ⟨dw,aa⟩);exact aym ⟨l,aa⟩
 simp only[mZ,aA];have hi:=a1 h1;have l:=dY e5 i st (fun j bk=>step j (by omega) fun b aw=>aJ j b bk aw) (ayi ⟨b5 hi,bA,bH hi,bC cx.e h1,U,aa⟩);exact ayl ⟨l,aa⟩
end Go.Proofs.YtdchjefneblpgaaGreat
namespace Go.Proofs.YtdchjefneblpgaaGreat
open Go.Sx Go.RowKit Go.Proofs.Tryz
def Fair(r:az):Prop:=(0<=r.op/\r.op<5)/\(0<=r.bi.a8/\r.bi.a8<4)/\(0<=r.bi.dg/\r.bi.dg<5)/\(0<=r.key/\r.key<12)/\(0<=r.val/\r.val<40)
theorem w5{n:Int}(h1:-9223372036854775808<=n)(U:n<=9223372036854775807):aL .i64 n:=⟨h1,U⟩
theorem Fair.wf{r:az}(h:Fair r):r.wf:=by
 obtain⟨h1,U,aA,aJ,a'⟩:=h;exact⟨w5 (by omega) (by omega),⟨w5 (by omega) (by omega),w5 (by omega) (by omega)⟩,w5 (by omega) (by omega),w5 (by omega) (by omega)⟩
theorem VG(b:List Int)(c:dW)(ak:c.ok b):∃(d:dW) (s:gC),d.ok b/\((0<=s.a8/\s.a8<4)/\(0<=s.dg/\s.dg<5))/\b2 prog 325 [.cur (c.e b) (d.e b)] (.vals [.agg s.e]):=by
 obtain⟨d1,x,cC,h1,bx⟩:=ek b c 4 ak (by omega);obtain⟨d2,y,cg,U,b0⟩:=ek b d1 5 cC (by omega);exact⟨d2,⟨x,y⟩,cg,⟨h1,U⟩,ahZ ⟨bx,b0,aa⟩⟩
theorem CW{n:Int}{xs:List Int}(h:n∈xs)(af:(xs.all fun x=>decide (-9223372036854775808<=x)&&decide (x<=9223372036854775807))=true):aL .i64 n:=by
 have:=gA.1 af n h;simp only[cw,ck]at this;exact this
theorem ahm(b:List Int)(c:dW)(ak:c.ok b):∃(d:dW) (s:gC),d.ok b/\s.wf/\b2 prog 272 [.cur (c.e b) (d.e b)] (.vals [.agg s.e]):=by
 obtain⟨d1,s,cC,⟨h1,U⟩,bx⟩:=VG b c ak;obtain⟨d2,k,cg,aA,b0⟩:=ek b d1 10 cC (by omega);have w1:aL .i64 s.a8:=w5 (by omega) (by omega);have h':aL .i64 s.dg:=w5 (by omega) (by omega);by_cases bE:k=0
 ·obtain⟨d3,x,cL,aJ,ci⟩:=mu b d2 [-1,3,4,9223372036854775807] cg (by simp);exact⟨d3,⟨x,s.dg⟩,cL,⟨CW aJ (by decide),h'⟩,ah0 ⟨bx,b0,by simp[bE],ci,aa⟩⟩
 by_cases e1:k=1
 ·obtain⟨d3,x,cL,aJ,ci⟩:=mu b d2 [-1,5,6,7,-9223372036854775808] cg (by simp);exact⟨d3,⟨s.a8,x⟩,cL,⟨w1,CW aJ (by decide)⟩,ah1 ⟨bx,b0,by simp[bE],by simp[e1],ci,aa⟩⟩
 exact⟨d2,s,cg,⟨w1,h'⟩,ah2 ⟨bx,b0,by simp[bE],by simp[e1],aa⟩⟩
theorem GC(b:List Int)(c:dW)(ak:c.ok b):∃(d:dW) (r:az),d.ok b/\Fair r/\b2 prog 271 [.cur (c.e b) (d.e b)] (.vals [.agg r.e]):=by
 obtain⟨d1,x,cC,h1,bx⟩:=ek b c 5 ak (by omega);obtain⟨d2,s,cg,⟨U,aA⟩,b0⟩:=VG b d1 cC;obtain⟨d3,k,cL,aJ,ci⟩:=ek b d2 12 cg (by omega);obtain⟨d4,v,fo,a',eA⟩:=ek b d3 40 cL (by omega);exact⟨d4,⟨x,s,k,v⟩,fo,⟨h1,U,aA,aJ,a'⟩,ah3 ⟨bx,b0,ci,eA,aa⟩⟩
theorem VH(b:List Int)(c:dW)(ak:c.ok b):∃(d:dW) (r:az),d.ok b/\r.wf/\b2 prog 178 [.cur (c.e b) (d.e b)] (.vals [.agg r.e]):=by
 obtain⟨d1,r,cC,aD,bx⟩:=GC b c ak;obtain⟨w1,h',Pr,Ps⟩:=aD.wf;obtain⟨d2,k,cg,aA,b0⟩:=ek b d1 12 cC (by omega);by_cases bE:k=0
 ·obtain⟨d3,x,cL,aJ,ci⟩:=mu b d2 [-1,7,8] cg (by simp);exact⟨d3,⟨x,r.bi,r.key,r.val⟩,cL,⟨CW aJ (by decide),h',Pr,Ps⟩,ah4 ⟨bx,b0,by simp[bE],ci,aa⟩⟩
 by_cases e1:k=1
 ·obtain⟨d3,s,cL,aJ,ci⟩:=ahm b d2 cg;exact⟨d3,⟨r.op,s,r.key,r.val⟩,cL,⟨w1,aJ,Pr,Ps⟩,ah5 ⟨bx,b0,by simp[bE],by simp[e1],ci,aa⟩⟩
 by_cases e2:k=2
 ·obtain⟨d3,x,cL,aJ,ci⟩:=mu b d2 [-1,99,100,-9223372036854775808] cg (by simp);exact⟨d3,⟨r.op,r.bi,x,r.val⟩,cL,⟨w1,h',CW aJ (by decide),Ps⟩,ah6 ⟨bx,b0,by simp[bE],by simp[e1],by simp[e2],ci,aa⟩⟩
 by_cases cj:k=3
 ·obtain⟨d3,x,cL,aJ,ci⟩:=mu b d2 [-1,999,1000,9223372036854775807] cg (by simp);exact⟨d3,⟨r.op,r.bi,r.key,x⟩,cL,⟨w1,h',Pr,CW aJ (by decide)⟩,ah7 ⟨bx,b0,by simp[bE],by simp[e1],by simp[e2],by simp[cj],ci,aa⟩⟩
 exact⟨d2,r,cg,aD.wf,ah8 ⟨bx,b0,by simp[bE],by simp[e1],by simp[e2],by simp[cj],aa⟩⟩
theorem Ji(r:az):Flat [r.e]:=fE fun d aE=>by
 simp only[az.e,eH,pW,or_false]at aE;grind
