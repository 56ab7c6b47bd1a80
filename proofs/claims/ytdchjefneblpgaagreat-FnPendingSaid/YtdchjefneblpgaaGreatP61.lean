import Derived.Test.YtdchjefneblpgaaGreatT5
import Derived.Test.YtdchjefneblpgaaGreatR35
import Derived.Test.YtdchjefneblpgaaGreatGD
import Derived.Test.YtdchjefneblpgaaGreatP42
set_option linter.unusedVariables false
set_option linter.unusedSimpArgs false
namespace Go.Proofs.YtdchjefneblpgaaGreat
open Go.Sx Go.RowKit Go.Proofs.Tryz
def hq(n:Int):List D:=[.v (.int .u8 n)]
structure dz where
 i:Int
 h:Int
def dz.e(b:List Int)(c:dz):List D:=[.J 1 (b.map hq),I c.i,I c.h]
def Bytes(b:List Int):Prop:=b.length<=8388608/\∀x∈b,0<=x/\x<=255
def dz.ok(b:List Int)(c:dz):Prop:=Bytes b/\0<=c.i/\c.i<=b.length
theorem aqG{P:Program}{t:TypeId}{ds:List D}(hu:P.underlying t=some (.int .u8))(h:jQ P t ds):∃n,ds=hq n/\0<=n/\n<=255:=by
 have U:∃n,ds=[.v (.int .u8 n)]/\(Lit.int .u8 n).wf=true:=by cases h<;>simp_all
 obtain⟨n,e,hw⟩:=U;refine⟨n,e,?_⟩;simp[Lit.wf]at hw;have au:IntKind.u8.min=0:=rfl;rw[au]at hw;exact hw
theorem aae:prog.cellsOf 5=1:=by kernel_rfl
theorem aaf{ds:List D}(h:jQ prog 22 ds):∃xs:List Int,ds=[.J 1 (xs.map hq)]/\(xs.length:Int)<=9223372036854775807/\∀a∈xs,(fun n=>0<=n/\n<=255) a:=
 aks hq (fun n=>0<=n/\n<=255) Tryz.underlying22 aae (fun ds h=>aqG Tryz.underlying5 h) h
theorem aag{cj:cH}(h:Cr prog 22 cj):∃xs:List Int,cj=.one (.J 1 (xs.map hq))/\(xs.length:Int)<=9223372036854775807/\∀a∈xs,(fun n=>0<=n/\n<=255) a:=by
 cases cj with
 | agg ds=>have:=h.2;simp[r7,Tryz.underlying22]at this
 | one d=>
  obtain⟨x,e,aa⟩:=aaf h.1;obtain rfl:=(V7 e).1;exact⟨x,rfl,aa⟩
theorem Sw{P:Program}(a:Int)(n:Nat):∃m:Int,∀t x y,me P .shr t x y (.int .i64 a) (.int .u64 (n:Int)) (.int .i64 m):=⟨_,fun _ _ _=>ap8⟩
theorem aah{P:Program}(a b:Int):∃m:Int,∀t x y,me P .xor t x y (.int .i64 a) (.int .i64 b) (.int .i64 m):=⟨_,fun _ _ _=>ap9⟩
theorem J6{P:Program}(a:Int)(k:Nat)(hk:k<2 ^ 62):∃m:Int,(0<=m/\m<=k)/\∀t x y,me P .and t x y (.int .i64 a) (.int .i64 (k:Int)) (.int .i64 m):=⟨_,aqb a k hk,fun _ _ _=>aqa⟩
theorem Sy(b:List Int)(ah:Bytes b):∀(n i:Nat) (h:Int),i+n=b.length->0<=h/\h<=1073741823->∃gq,dd prog (az f117 0) (x' (b.map hq) i h) (.exit 0) (Ej (b.map hq) gq)
 | 0,i,h,hi,bI=>⟨h,.last (cL 0) (aqe ⟨by rw[jO,bp];omega,aj⟩)⟩
 | n+1,i,h,hi,bI=>by
  have af:=ah.1;obtain⟨x,aa⟩:=dv (xs:=b) (i:=i) (by omega);have ah:=ah.2 x (c8 aa);by_cases aH:(i:Int)<4000
  ·obtain⟨m,hm,r⟩:=J6 (P:=prog) (h*131+x+7) 1073741823 (by decide);obtain⟨gq,l⟩:=Sy b ‹Bytes b› n (i+1) m (by omega) hm;exact⟨gq,.more (aqc ⟨cg (by omega),ji aH,⟨by omega,by omega⟩,bG,bJ (by omega),bF hq aa,⟨by omega,by omega⟩,⟨by omega,by omega⟩,⟨by omega,by omega⟩,r _ _ _,⟨by omega,by omega⟩,aj⟩) l⟩
  exact⟨h,.last (cL 0) (aqd ⟨cg (by omega),mu aH,aj⟩)⟩
theorem J7(b:List Int)(ah:Bytes b):∃c:dz,c.ok b/\bU prog 117 [.ro (.one (.J 1 (b.map hq)))] (.iH [some 0,none,none] (c.e b)):=by
 have af:=ah.1;obtain⟨gq,l⟩:=Sy b ah b.length 0 (94701+(↑(b.map hq).length:Int)) (by omega) ⟨by omega,by simp;omega⟩;exact⟨⟨0,gq⟩,⟨ah,by dsimp only;omega,by dsimp only;omega⟩,aqf ⟨⟨by omega,by simp;omega⟩,l,aj⟩⟩
theorem El(b:List Int)(c:dz)(ad:c.ok b):∃(d:dz) (n:Int),d.ok b/\(0<=n/\n<=255)/\bU prog 253 [.cur (c.e b) (d.e b)] (.vals [.one (I n)]):=by
 obtain⟨⟨h1,U⟩,au,aH⟩:=ad;obtain⟨oz,cb⟩:=Sw (P:=prog) (IntKind.i64.wrap (IntKind.i64.wrap (c.h*6364136223846793005)+1442695040888963407)) 33;obtain⟨lv,et⟩:=Sw (P:=prog) (IntKind.i64.wrap (IntKind.i64.wrap (c.h*6364136223846793005)+1442695040888963407)) 45;obtain⟨mO,j2⟩:=aah (P:=prog) oz lv;obtain⟨n6,m6,oU⟩:=J6 (P:=prog) mO 255 (by decide);by_cases hi:c.i<b.length
 ·obtain⟨x,aa⟩:=dv (xs:=b) (i:=c.i.toNat) (by omega);have ah:=U x (c8 aa);obtain⟨n8,m8,aqj⟩:=J6 (P:=prog) (IntKind.i64.wrap (n6+IntKind.i64.wrap x)) 255 (by decide);exact⟨⟨c.i+1,IntKind.i64.wrap (IntKind.i64.wrap (c.h*6364136223846793005)+1442695040888963407)⟩,n8,⟨⟨h1,U⟩,by dsimp only;omega,by dsimp only;omega⟩,m8,aqg ⟨cb _ _ _,et _ _ _,j2 _ _ _,oU _ _ _,by rw[ci,bp];exact hi,au,by rw[bp];exact hi,by rw[c9,aa];rfl,aqj _ _ _,⟨by omega,by omega⟩,aj⟩⟩
 exact⟨⟨c.i,IntKind.i64.wrap (IntKind.i64.wrap (c.h*6364136223846793005)+1442695040888963407)⟩,n6,⟨⟨h1,U⟩,au,aH⟩,m6,aqh ⟨cb _ _ _,et _ _ _,j2 _ _ _,oU _ _ _,by rw[jO,bp];exact hi,aj⟩⟩
theorem dQ(b:List Int)(c:dz)(k:Int)(ad:c.ok b)(hk:1<=k/\k<=1000000):∃(d:dz) (n:Int),d.ok b/\(0<=n/\n<k)/\bU prog 138 [.cur (c.e b) (d.e b),.ro (.one (I k))] (.vals [.one (I n)]):=by
 have md:∀m:Int,0<=m->0<=m.tmod k/\m.tmod k<k:=fun m hm=>⟨Int.tmod_nonneg _ hm,Int.tmod_lt_of_pos m (by omega)⟩
 obtain⟨d1,ki,cd,fQ,bB⟩:=El b c ad;by_cases h:k<=256
 ·exact⟨d1,_,cd,md ki fQ.1,aqi ⟨mu (by omega),ji h,bB,by omega,aj⟩⟩
 obtain⟨d2,kZ,bY,fH,bV⟩:=El b d1 cd;obtain⟨d3,oz,cr,nn,cb⟩:=El b d2 bY;obtain⟨d4,lv,fl,F5,et⟩:=El b d3 cr;exact⟨d4,_,fl,md _ (by omega),apt ⟨mu (by omega),mu h,bB,bV,cb,et,⟨by omega,by omega⟩,⟨by omega,by omega⟩,⟨by omega,by omega⟩,⟨by omega,by omega⟩,⟨by omega,by omega⟩,⟨by omega,by omega⟩,by omega,aj⟩⟩
theorem AE(b:List Int)(c:dz)(k:Int)(ad:c.ok b)(hk:1<=k/\k<=1000000):∃(d:dz) (x:Bool),d.ok b/\bU prog 136 [.cur (c.e b) (d.e b),.ro (.one (I k))] (.vals [.one (B x)]):=by
 obtain⟨d,n,o,_,r⟩:=dQ b c k ad hk;exact⟨d,_,o,apu ⟨r,aj⟩⟩
theorem l8(b:List Int)(c:dz)(xs:List Int)(ad:c.ok b)(hk:1<=xs.length/\xs.length<=1000):∃(d:dz) (n:Int),d.ok b/\n∈xs/\bU prog 140 [.cur (c.e b) (d.e b),.ro (.one (.J 1 (xs.map cv)))] (.vals [.one (I n)]):=by
 obtain⟨d,n,o,ah,r⟩:=dQ b c (xs.length:Int) ad (by omega);obtain⟨x,aa⟩:=dv (xs:=xs) (i:=n.toNat) (by omega);refine⟨d,x,o,c8 aa,apv ⟨?_,ah.1,by rw[bp];exact ah.2,by rw[c9,aa];rfl,aj⟩⟩;rw[bp];exact r
end Go.Proofs.YtdchjefneblpgaaGreat
namespace Go.Proofs.YtdchjefneblpgaaGreat
open Go.Sx Go.RowKit Go.Proofs.Tryz
def Input(r:aA):Prop:=r.op=0/\r.bc.cD=0/\(0<=r.bc.a8/\r.bc.a8<=2)/\(0<=r.key/\r.key<12)/\(0<=r.val/\r.val<40)
theorem Sz(b:List Int):∀(n i:Nat) (e:Int) (xs:List aA) (c:dz),i+n=5->c.ok b->(0<=e/\e<=2)->xs.length<=i->(∀r∈xs,Input r)->
  ∃(ys:List aA) (d:dz),d.ok b/\ys.length<=5/\(∀r∈ys,Input r)/\dd prog (az f119 0) (AB (b.map hq) i e (xs.map aA.e) c.i c.h) (.exit 0) (KP (b.map hq) (ys.map aA.e) d.i d.h)
 | n,i,e,xs,c,ig,ad,he,af,aa=>by
  obtain⟨d1,m,cd,ah,bB⟩:=dQ b c 6 ad (by omega);by_cases h:(i:Int)<m
  ·match n with
   | 0=>omega
   | n+1=>
    obtain⟨d2,a,bY,ag,bV⟩:=dQ b d1 2 cd (by omega);obtain⟨d3,k,cr,hk,cb⟩:=dQ b d2 12 bY (by omega);obtain⟨d4,v,fl,bj,et⟩:=dQ b d3 40 cr (by omega);have o1:=EX (e+a) 0 2;have Nc:0<=hf (e+a) 0 2/\hf (e+a) 0 2<=2:=by
     unfold hf;simp only[show ¬(2:Int)<0 by omega,j4];split<;>(try split)<;>omega
    obtain⟨ys,d,o,e9,fb,l⟩:=Sz b n (i+1) (hf (e+a) 0 2) (xs++[⟨0,⟨hf (e+a) 0 2,0⟩,k,v⟩]) d4 (by omega) fl Nc (by simp;omega) (fun r ar=>by
     rcases gY.1 ar with ar | ar
     ·exact aa r ar
     rw[List.mem_singleton]at ar;subst ar;exact⟨rfl,rfl,Nc,hk,bj⟩)
    refine⟨ys,d,o,e9,fb,.more ?_ l⟩;rw[e3];exact apr ⟨bB,ji h,bV,⟨by omega,by omega⟩,o1,cb,et,by simp;omega,by simp;omega,dk (fun d ax=>by simp only[dG,mr,or_false]at ax;rcases ax with rfl | rfl | rfl | rfl | rfl<;>exact⟨_,rfl⟩),⟨by omega,by omega⟩,aj⟩
  exact⟨xs,d1,cd,by omega,aa,.last (cL 0) (aps ⟨bB,mu h,aj⟩)⟩
theorem SA(b:List Int)(c:dz)(ad:c.ok b):∃(d:dz) (xs:List aA),d.ok b/\xs.length<=5/\(∀r∈xs,Input r)/\bU prog 119 [.cur (c.e b) (d.e b)] (.vals [.one (.J 5 (xs.map aA.e))]):=by
 obtain⟨ys,d,o,e9,fb,l⟩:=Sz b 5 0 0 [] c rfl ad (by omega) (by simp) (by simp);exact⟨d,ys,o,e9,fb,Z5 ⟨l,aj⟩⟩
end Go.Proofs.YtdchjefneblpgaaGreat
namespace Go.Proofs.YtdchjefneblpgaaGreat
open Go.Sx Go.RowKit Go.Proofs.Tryz
def rC(k a b:Int):List Node:=[⟨1,0,0,[1]⟩,⟨k,0,0,[2,5]⟩,⟨4,1+a,0,[3]⟩,⟨2,b,0,[4]⟩,⟨7,0,0,[1]⟩,⟨8,0,0,[]⟩]
def kl(k a b c:Int):Nat->List Node
 | 0=>(rC k a b).set 3 ⟨3,1+c,0,[4]⟩
 | 1=>(rC k a b).set 4 ⟨8,0,0,[]⟩
 | 2=>(rC k a b).set 2 ⟨4,1+a,0,[3,4]⟩
 | 3=>(rC k a b++[(⟨8,0,0,[]⟩:Node)]).set 0 ⟨1,0,0,[1,6]⟩
 | _=>rC k a b
structure ku (g:bW):Prop where
 nodes:∃(k a b c:Int) (v:Nat),(k=5\/k=6)/\(0<=a/\a<3)/\(0<=b/\b<4)/\(0<=c/\c<3)/\v<=4/\g.nodes=kl k a b c v
 ap:1<=g.ap/\g.ap<=3
 cap:1<=g.cap/\g.cap<=3
theorem ku.ok{g:bW}(h:ku g):fa g=true:=by
 obtain⟨⟨k,a,b,c,v,hk,ag,ah,ad,bj,aL⟩,hw,eY⟩:=h;obtain⟨nodes,ap,cap⟩:=g;simp only at aL hw eY;have WC:a=0\/a=1\/a=2:=by omega
 have WD:b=0\/b=1\/b=2\/b=3:=by omega
 have WE:c=0\/c=1\/c=2:=by omega
 have bk:v=0\/v=1\/v=2\/v=3\/v=4:=by omega
 have arf:ap=1\/ap=2\/ap=3:=by omega
 have ep:cap=1\/cap=2\/cap=3:=by omega
 have key:∀k∈[(5:Int),6],∀a∈[(0:Int),1,2],∀b∈[(0:Int),1,2,3],∀c∈[(0:Int),1,2],∀v∈[0,1,2,3,4],(!(anyI (l9 ⟨kl k a b c v,1,1⟩) 0 (kl k a b c v))&&decide ((kl k a b c v).length<=7)&&decide (1<=(kl k a b c v).length))=true:=by decide +kernel
 have:=key k (by rcases hk with h | h<;>simp[h]) a (by rcases WC with h | h | h<;>simp[h]) b (by rcases WD with h | h | h | h<;>simp[h]) c (by rcases WE with h | h | h<;>simp[h]) v (by rcases bk with h | h | h | h | h<;>simp[h]);simp only[ca,ci]at this;obtain⟨⟨h1,U⟩,au⟩:=this;subst aL;have Ye:l9 ⟨kl k a b c v,ap,cap⟩=l9 ⟨kl k a b c v,1,1⟩:=rfl;unfold fa;simp only[ca];rw[Ye];refine⟨⟨⟨?_,?_⟩,?_⟩,h1⟩
 ·simp only[aW,ca,ci];omega
 ·simp only[aW,ca,ci];omega
 simp only[aW,ca,ci];omega
theorem SB(b:List Int)(c:dz)(ad:c.ok b):∃(d:dz) (g:bW),d.ok b/\ku g/\bU prog 118 [.cur (c.e b) (d.e b)] (.vals [.agg g.e]):=by
 obtain⟨d1,ki,cd,h1,bB⟩:=dQ b c 3 ad (by omega);obtain⟨d2,kZ,bY,U,bV⟩:=dQ b d1 3 cd (by omega);obtain⟨d3,x,cr,cb⟩:=AE b d2 3 bY (by omega);obtain⟨d4,lv,fl,aH,et⟩:=dQ b d3 3 cr (by omega);obtain⟨d5,mO,sN,ba,j2⟩:=dQ b d4 4 fl (by omega);obtain⟨d6,n6,Zk,br,oU⟩:=dQ b d5 3 sN (by omega);obtain⟨d7,n7,Zl,b7,rS⟩:=dQ b d6 6 Zk (by omega);have i1:bf .i64 (1+ki):=⟨by omega,by omega⟩
 have i2:bf .i64 (1+kZ):=⟨by omega,by omega⟩
 have i4:bf .i64 (1+lv):=⟨by omega,by omega⟩
 have i6:bf .i64 (1+n6):=⟨by omega,by omega⟩
 have fin:∀(k:Int) (v:Nat) {ds:List (List D)},(k=5\/k=6)->v<=4->mv ds ((kl k lv mO n6 v).map Node.e)->bU prog 118 [.cur (c.e b) (d7.e b)] (.vals [.agg [.J 4 ds,I (1+ki),I (1+kZ)]])->
   ∃(d:dz) (g:bW),d.ok b/\ku g/\bU prog 118 [.cur (c.e b) (d.e b)] (.vals [.agg g.e]):=by
  intro k v ds hk bj bl ar;exact⟨d7,⟨kl k lv mO n6 v,1+ki,1+kZ⟩,Zl,⟨⟨k,lv,mO,n6,v,hk,aH,ba,br,bj,rfl⟩,by dsimp only;omega,by dsimp only;omega⟩,
   ar.fit (.cons (.agg (.cons (.J 4 bl) (kv.refl _))) .nil)⟩
 have f1:∀d,Fit d d:=.refl;by_cases bE:n7=0
 ·cases x
  ·exact fin 5 0 (.inl rfl) (by omega) (by repeat (first | exact .refl _ | constructor)) (apL ⟨bB,i1,bV,i2,cb,rfl,et,i4,j2,oU,i6,rS,by simp[bE],by omega,by simp,rfl,aj⟩)
  exact fin 6 0 (.inr rfl) (by omega) (by repeat (first | exact .refl _ | constructor)) (apG ⟨bB,i1,bV,i2,cb,rfl,et,i4,j2,oU,i6,rS,by simp[bE],by omega,by simp,rfl,aj⟩)
 by_cases e1:n7=1
 ·cases x
  ·exact fin 5 1 (.inl rfl) (by omega) (by repeat (first | exact .refl _ | constructor)) (apM ⟨bB,i1,bV,i2,cb,rfl,et,i4,j2,oU,i6,rS,by simp[bE],by simp[e1],by omega,by simp,rfl,aj⟩)
  exact fin 6 1 (.inr rfl) (by omega) (by repeat (first | exact .refl _ | constructor)) (apH ⟨bB,i1,bV,i2,cb,rfl,et,i4,j2,oU,i6,rS,by simp[bE],by simp[e1],by omega,by simp,rfl,aj⟩)
 by_cases e2:n7=2
 ·cases x
  ·exact fin 5 2 (.inl rfl) (by omega) (by repeat (first | exact .refl _ | constructor)) (apN ⟨bB,i1,bV,i2,cb,rfl,et,i4,j2,oU,i6,rS,by simp[bE],by simp[e1],by simp[e2],by omega,by simp,rfl,aj⟩)
  exact fin 6 2 (.inr rfl) (by omega) (by repeat (first | exact .refl _ | constructor)) (apI ⟨bB,i1,bV,i2,cb,rfl,et,i4,j2,oU,i6,rS,by simp[bE],by simp[e1],by simp[e2],by omega,by simp,rfl,aj⟩)
 by_cases b2:n7=3
 ·cases x
  ·exact fin 5 3 (.inl rfl) (by omega) (by repeat (first | exact .refl _ | constructor)) (apO ⟨bB,i1,bV,i2,cb,rfl,et,i4,j2,oU,i6,rS,by simp[bE],by simp[e1],by simp[e2],by simp[b2],by simp,by simp,by omega,by simp,rfl,aj⟩)
  exact fin 6 3 (.inr rfl) (by omega) (by repeat (first | exact .refl _ | constructor)) (apJ ⟨bB,i1,bV,i2,cb,rfl,et,i4,j2,oU,i6,rS,by simp[bE],by simp[e1],by simp[e2],by simp[b2],by simp,by simp,by omega,by simp,rfl,aj⟩)
 cases x
 ·exact fin 5 4 (.inl rfl) (by omega) (by repeat (first | exact .refl _ | constructor)) (apP ⟨bB,i1,bV,i2,cb,rfl,et,i4,j2,oU,i6,rS,by simp[bE],by simp[e1],by simp[e2],by simp[b2],aj⟩)
 exact fin 6 4 (.inr rfl) (by omega) (by repeat (first | exact .refl _ | constructor)) (apK ⟨bB,i1,bV,i2,cb,rfl,et,i4,j2,oU,i6,rS,by simp[bE],by simp[e1],by simp[e2],by simp[b2],aj⟩)
def Em(p:cE):Prop:=(1<=p.kind/\p.kind<=7)/\(0<=p.a/\p.a<3)/\(0<=p.b/\p.b<3)
theorem aai(b:List Int)(c:dz)(ad:c.ok b):∃(d:dz) (p:cE),d.ok b/\Em p/\bU prog 242 [.cur (c.e b) (d.e b)] (.vals [.agg p.e]):=by
 obtain⟨d1,k,cd,h1,bB⟩:=l8 b c [1,1,1,2,3,3,3,4,4,5,6,6,7] ad (by simp);obtain⟨d2,a,bY,U,bV⟩:=dQ b d1 3 cd (by omega);have hk:1<=k/\k<=7:=by
  simp only[dG,mr,or_false]at h1;omega
 by_cases dB:k=4
 ·obtain⟨d3,m,cr,au,cb⟩:=dQ b d2 2 bY (by omega);have qa:bf .i64 (a+1):=⟨by omega,by omega⟩
  have ou:bf .i64 (a+1+m):=⟨by omega,by omega⟩
  exact⟨d3,⟨k,a,(a+1+m).tmod 3⟩,cr,⟨hk,U,Int.tmod_nonneg _ (by omega),Int.tmod_lt_of_pos _ (by omega)⟩,Z7 ⟨bB,bV,by simp[dB],Z6 ⟨qa,cb,ou,by decide,aj⟩,aj⟩⟩
 by_cases gD:k=5
 ·obtain⟨d3,m,cr,au,cb⟩:=dQ b d2 2 bY (by omega);have qa:bf .i64 (a+1):=⟨by omega,by omega⟩
  have ou:bf .i64 (a+1+m):=⟨by omega,by omega⟩
  exact⟨d3,⟨k,a,(a+1+m).tmod 3⟩,cr,⟨hk,U,Int.tmod_nonneg _ (by omega),Int.tmod_lt_of_pos _ (by omega)⟩,Z9 ⟨bB,bV,by simp[dB],by simp[gD],Z8 ⟨qa,cb,ou,by decide,aj⟩,aj⟩⟩
 exact⟨d2,⟨k,a,0⟩,bY,⟨hk,U,by dsimp only;omega⟩,Z' ⟨bB,bV,by simp[dB],by simp[gD],aj⟩⟩
theorem WL(p:cE):Flat [p.e]:=dk fun d ax=>by
 simp only[cE.e,dG,mr,or_false]at ax;rcases ax with rfl | rfl | rfl<;>exact⟨_,rfl⟩
theorem SC(b:List Int)(m:Nat)(hm:m<=1000):∀(n i:Nat) (xs:List cE) (c:dz),i+n=m+1->c.ok b->xs.length<=i->(∀p∈xs,Em p)->
  ∃(ys:List cE) (d:dz),d.ok b/\ys.length<=m+1/\(∀p∈ys,Em p)/\dd prog (az f120 0) (AD (b.map hq) m i (xs.map cE.e) c.i c.h) (.exit 0) (J5 (b.map hq) (ys.map cE.e) d.i d.h)
 | n,i,xs,c,ig,ad,af,aa=>by
  obtain⟨d1,k,cd,hk,bB⟩:=dQ b c ((m:Int)+1) ad (by omega);by_cases h:(i:Int)<k
  ·match n with
   | 0=>omega
   | n+1=>
    obtain⟨d2,p,bY,hp,bV⟩:=aai b d1 cd;obtain⟨ys,d,o,e9,fb,l⟩:=SC b m hm n (i+1) (xs++[p]) d2 (by omega) bY (by simp;omega) (fun z aR=>by
     rcases gY.1 aR with aR | aR
     ·exact aa z aR
     rw[List.mem_singleton]at aR;subst aR;exact hp)
    refine⟨ys,d,o,e9,fb,.more ?_ l⟩;rw[e3];exact aab ⟨⟨by omega,by omega⟩,bB,ji h,bV,by simp;omega,by simp;omega,WL p,⟨by omega,by omega⟩,aj⟩
  exact⟨xs,d1,cd,by omega,aa,.last (cL 0) (aac ⟨⟨by omega,by omega⟩,bB,mu h,aj⟩)⟩
theorem aaj(b:List Int)(c:dz)(m:Nat)(hm:m<=1000)(ad:c.ok b):∃(d:dz) (cw:List cE),d.ok b/\cw.length<=m+1/\(∀p∈cw,Em p)/\bU prog 120 [.cur (c.e b) (d.e b),.ro (.one (I m))] (.vals [.one (.J 3 (cw.map cE.e))]):=by
 obtain⟨ys,d,o,e9,fb,l⟩:=SC b m hm (m+1) 0 [] c (by omega) ad (by simp) (by simp);exact⟨d,ys,o,e9,fb,aad ⟨l,aj⟩⟩
end Go.Proofs.YtdchjefneblpgaaGreat
namespace Go.Proofs.YtdchjefneblpgaaGreat
open Go.Sx Go.RowKit Go.Proofs.Tryz
def fm(e:Int)(x:aP):Int:=x.bK.getD e.toNat 0
def fV(e:Int)(x:aP):Bool:=x.bL.getD e.toNat false
def jT(e:Int)(x:aP):Bool:=x.bA.getD e.toNat false
def gG(e:Int)(c:aU)(k:Nat):Int:=((c.ap.take k).map (fm e)).sum
def iG(e:Int)(c:aU):Nat:=cW (nS e) c.bQ
def quiet(e:Int)(c:aU):Prop:=(∀x∈c.ap,k' x e=true)/\iG e c=0
def Good(e:Int)(c:aU)(t:b'):Prop:=
 ((∀(i:Nat) x,t.place<i->c.ap[i]?=some x->k' x e=true/\(jT e x=true->t.ct=true))/\gG e c (t.place+1).toNat+t.sum=iG e c)\/
 0<gG e c (t.place+1).toNat+t.sum\/(∃(i:Nat) (x:aP),(i:Int)<=t.place/\c.ap[i]?=some x/\fV e x=true)\/t.bL=true
structure Inv (e:Int) (c:aU):Prop where
 total:gG e c c.ap.length=iG e c
 token:∀t,hg c e=some t->t.going=true->Good e c t
 y6:(m' c e||mi c e)=true->quiet e c
theorem ya{α:Type}(f:α->Int){y:α}(x:α):∀{xs:List α} {i k:Nat},xs[i]?=some y->(((xs.set i x).take k).map f).sum=((xs.take k).map f).sum+(if i<k then f x-f y else 0)
 | [],_,_,h=>by simp at h
 | a::xs,0,0,h=>by simp
 | a::xs,0,k+1,h=>by
  obtain rfl:a=y:=by simpa using h
  simp only[List.set_cons_zero,List.take_succ_cons,iT,oY];rw[a6 (by omega)];omega
 | a::xs,i+1,0,h=>by simp
 | a::xs,i+1,k+1,h=>by
  have dt:=ya f x (xs:=xs) (i:=i) (k:=k) (by simpa using h);simp only[List.set_cons_succ,List.take_succ_cons,iT,oY,dt];by_cases hk:i<k
  ·rw[a6 hk,a6 (by omega)];omega
  rw[aX hk,aX (by omega)];omega
variable{i j:Nat}
theorem uf{α:Type}{xs:List α}{y z:α}(h:(xs.set i y)[j]?=some z):(j=i/\z=y)\/(j≠i/\xs[j]?=some z):=by
 rw[iS]at h;split at h
 ·rename_i lV;split at h
  ·exact .inl ⟨lV.symm,(ei h).symm⟩
  cases h
 exact .inr ⟨fun q=>‹¬i=j› q.symm,h⟩
theorem oO{α:Type}{xs:List α}{x y:α}(h:xs[i]?=some x):(xs.set i y)[i]?=some y:=by
 rw[iS,a6 rfl,a6 (bh h)]
theorem AF{α:Type}{xs:List α}{y z:α}(h:xs[j]?=some z)(aM:j≠i):(xs.set i y)[j]?=some z:=by
 rw[iS,aX (fun q=>aM q.symm),h]
theorem AG{α:Type}{xs:List α}{x:α}(h:xs[i]?=some x):xs.set i x=xs:=by
 have af:=bh h;rw[fC af]at h;rw[<-ei h];exact List.set_getElem_self af
variable{e:Int}{c:aU}{x:aP}
theorem Inv.worker{i:Int}{d:aU}{y:aP}(h:Inv e c)(aa:b9 c i=some x)(hw:d.ap=c.ap.set i.toNat y)(bt:hg d e=hg c e)
  (YN:(m' d e||mi d e)=true->(m' c e||mi c e)=true)
  (ad:(fm e y=fm e x/\(fV e x=true->fV e y=true)/\iG e d=iG e c/\(k' x e=true->k' y e=true/\jT e y=jT e x))\/
   (k' x e=false/\fm e y=fm e x+1/\(fV e x=true->fV e y=true)/\iG e d=iG e c+1)\/
   (iG e c=iG e d+1/\fm e y=fm e x-1/\fV e y=true)):Inv e d:=by
 obtain⟨i0,i1,i2⟩:=er aa;have hlen:d.ap.length=c.ap.length:=by rw[hw,eQ]
 have xK:∀k,gG e d k=gG e c k+(if i.toNat<k then fm e y-fm e x else 0):=fun k=>by
  unfold gG;rw[hw];exact ya (fm e) y i2
 have mF:x∈c.ap:=c8 i2;refine⟨?_,fun t fs ao=>?_,fun fs=>?_⟩
 ·rw[xK,hlen,a6 i1,h.total];rcases ad with⟨h1,_,au,_⟩ | ⟨_,U,_,aH⟩ | ⟨h1,U,_⟩<;>omega
 ·have gZ:=h.token t (bt▸fs) ao;unfold Good at gZ ⊢;rw[xK];have M7:(fV e x=true->fV e y=true)->(∃(j:Nat) (z:aP),(j:Int)<=t.place/\c.ap[j]?=some z/\fV e z=true)->∃(j:Nat) (z:aP),(j:Int)<=t.place/\d.ap[j]?=some z/\fV e z=true:=by
   rintro ah ⟨j,z,g1,g2,g3⟩;by_cases aM:j=i.toNat
   ·subst aM;rw[i2]at g2;cases g2;exact⟨_,y,g1,by rw[hw];exact oO i2,ah g3⟩
   exact⟨j,z,g1,by rw[hw];exact AF g2 aM,g3⟩
  rcases ad with⟨h1,U,au,aH⟩ | ⟨h1,U,au,aH⟩ | ⟨h1,U,au⟩
  ·rcases gZ with⟨ed,CM⟩ | g | g | g
   ·refine .inl ⟨fun j z aM aR=>?_,?_⟩
    ·rw[hw]at aR;rcases uf aR with⟨rfl,rfl⟩ | ⟨_,aR⟩
     ·have:=ed _ x aM i2;obtain⟨cC,b6⟩:=aH this.1;exact⟨cC,fun eY=>this.2 (b6▸eY)⟩
     exact ed j z aM aR
    ·split<;>omega
   ·exact .inr (.inl (by split<;>omega))
   ·exact .inr (.inr (.inl (M7 U g)))
   exact .inr (.inr (.inr g))
  ·rcases gZ with⟨ed,CM⟩ | g | g | g
   ·have hle:¬t.place<i.toNat:=fun bq=>by
     have:=(ed _ x bq i2).1;rw[h1]at this;cases this
    refine .inl ⟨fun j z aM aR=>?_,?_⟩
    ·rw[hw]at aR;rcases uf aR with⟨rfl,rfl⟩ | ⟨_,aR⟩
     ·exact absurd aM hle
     exact ed j z aM aR
    rw[a6 (by omega)];omega
   ·exact .inr (.inl (by split<;>omega))
   ·exact .inr (.inr (.inl (M7 au g)))
   exact .inr (.inr (.inr g))
  by_cases hle:(i.toNat:Int)<=t.place
  ·exact .inr (.inr (.inl ⟨i.toNat,y,hle,by rw[hw];exact oO i2,au⟩))
  rw[aX (by omega)];rcases gZ with⟨_,CM⟩ | g | ⟨j,z,g1,g2,g3⟩ | g
  ·exact .inr (.inl (by omega))
  ·exact .inr (.inl (by omega))
  ·exact .inr (.inr (.inl ⟨j,z,g1,by rw[hw];exact AF g2 (by omega),g3⟩))
  exact .inr (.inr (.inr g))
 obtain⟨q1,k1⟩:=h.y6 (YN fs);have hp:=q1 x mF;rcases ad with⟨_,_,au,aH⟩ | ⟨h1,_⟩ | ⟨h1,_⟩
 ·refine⟨fun z aR=>?_,by omega⟩;rw[hw]at aR;rcases hn aR with aR | rfl
  ·exact q1 z aR
  exact (aH hp).1
 ·rw[hp]at h1;cases h1
 omega
theorem oP:k' x e=true<->(∀r∈x.bT,e<r.bc.a8)/\(∀r∈x.queue,r.bc.a8≠e)/\∀r∈x.ck,r.bc.a8≠e:=by
 simp only[k',Bu,RD,mU,ca,fr,eW,ci,eu];rw[show ∀a b:Nat,a+b=0<->a=0/\b=0 from fun a b=>by omega,List.length_eq_zero_iff,List.length_eq_zero_iff,List.filter_eq_nil_iff,List.filter_eq_nil_iff];simp only[eu,Int.not_le]
variable{g:bW}
theorem aak{cs:List Cell}{r:aA}:∀q∈(dL g cs r).2.1,q.bc.a8=r.bc.a8:=by
 intro q av;unfold dL at av;split at av
 ·rename_i n _;unfold e8 at av;have ae:∀s:bD,s.a8=r.bc.a8->∀k v,q∈fo n s k v->q.bc.a8=r.bc.a8:=by
   intro s Db k v hm;simp only[fo,h']at hm;obtain⟨o,_,rfl⟩:=hm;exact Db
  have aL:(gI r.bc).1.a8=r.bc.a8:=by
   unfold gI;split<;>rfl
  grind
 cases av
theorem ug{α:Type}{xs:List α}{a d:α}(h:i≠j):(xs.set i a).getD j d=xs.getD j d:=by
 simp only[iw,iS,aX h]
theorem Bm{α:Type}{xs:List α}{a d:α}(h:i<xs.length):(xs.set i a).getD i d=a:=by
 simp[iw,h]
theorem J8{i e:Int}{l m:bC}(h:ee c i=some l):iG e (c0 c i m)+nS e l=iG e c+nS e m:=by
 unfold iG;exact D6 m (iq h).2.2
theorem aal(e cap:Int)(q:List aA)(r:aA)(a b s g:Int)(l:bC)(af:l.queue=q):nS e ⟨cap,q++[r],a,b,s,g⟩=nS e l+(if r.bc.a8=e then 1 else 0):=by
 simp only[nS,mU,List.filter_append,eK,af,List.filter_cons,List.filter_nil,eu];split<;>rfl
theorem aam(e:Int)(r:aA)(q:List aA)(l:bC)(af:l.queue=r::q)(cap a b s g:Int):nS e l=nS e ⟨cap,q,a,b,s,g⟩+(if r.bc.a8=e then 1 else 0):=by
 simp only[nS,mU,af,List.filter_cons,eu];split<;>simp
theorem qy{c d:aU}{i:Int}{y:aP}(aa:b9 c i=some x)(ax:d.ap=c.ap.set i.toNat y)(h:eD y e=true->eD x e=true\/mi c e=true)(aL:mi d e=true->mi c e=true):
  (m' d e||mi d e)=true->(m' c e||mi c e)=true:=by
 simp only[lL];rintro (hw | hw)
 ·unfold m' at hw ⊢;rw[ax,lg]at hw;obtain⟨z,aR,ie⟩:=hw;rcases hn aR with aR | rfl
  ·exact .inl (lg.2 ⟨z,aR,ie⟩)
  rcases h ie with h1 | h1
  ·exact .inl (lg.2 ⟨x,c8 (er aa).2.2,h1⟩)
  exact .inr h1
 exact .inr (aL hw)
theorem vZ{a b:Int}(ag:0<=a)(ah:0<=b)(h:a≠b):a.toNat≠b.toNat:=by omega
variable{f:Int}
theorem SD{d:Int}(he:0<=e/\e<=3)(bl:0<=f/\f<=3){xs:List Int}(af:xs.length=4):(kX xs f d).getD e.toNat 0=xs.getD e.toNat 0+(if f=e then d else 0):=by
 unfold kX;by_cases h:f=e
 ·subst h;rw[Bm (by omega),a6 rfl]
 rw[ug (vZ bl.1 he.1 h),aX h];omega
theorem En{w:aP}(h:fz g w=true):w.bK.length=4/\w.bL.length=4/\w.bA.length=4:=by
 obtain⟨_,_,_,_,ba,br,b7,_⟩:=h6.1 h;exact⟨ba,br,b7⟩
theorem J9{xs:List aA}(h:hU g xs=true){r:aA}(ar:r∈xs):0<=r.bc.a8/\r.bc.a8<=3:=by
 simp only[hU,fr,eW]at h;exact uH (g:=g) (by simpa using h r ar)
theorem ux{b:Bool}:eD (told x f b) e=(eD x e||f==e):=by
 simp[eD,told]
theorem Eo{n:cA}:eD (dZ x n) e=(eD x e||n.a8==e):=by
 unfold dZ;split
 ·rename_i h;by_cases he:n.a8=e
  ·subst he;rw[h];rfl
  have:(n.a8==e)=false:=by simpa using he
  rw[this,Bool.or_false]
 exact ux
theorem aan{n:cA}:k' (dZ x n) e=k' x e:=by
 unfold dZ;split<;>rfl
theorem Ep{x:aP}{n:cA}{e:Int}:fm e (dZ x n)=fm e x/\fV e (dZ x n)=fV e x/\jT e (dZ x n)=jT e x:=by
 unfold dZ;split<;>exact⟨rfl,rfl,rfl⟩
theorem Er{k:Nat}(h:c.ap[k]?=some x):gG e c (k+1)=gG e c k+fm e x:=by
 simp[gG,lK,h]
variable{t:b'}
theorem uy(he:0<=e)(bl:0<=f)(h:f≠e):(if 0<=e then (c.tokens.set f.toNat t)[e.toNat]? else none)=hg c e:=by
 unfold hg;rw[iS,aX (vZ bl he h)]
theorem RN{n:Nat}{b:Bool}(h:f≠e):((c.news++hy n f b).any fun x=>x.a8==e)=mi c e:=by
 rw[List.any_append];have:((hy n f b).any fun x=>x.a8==e)=false:=by
  rw[eW];intro x aa;simp only[hy,h']at aa;obtain⟨_,_,rfl⟩:=aa;simpa using h
 rw[this,Bool.or_false];rfl
theorem Inv.aqB(h:Inv e c)(he:0<=e)(bl:0<=f)(b5:f≠e)(aa:b9 c t.place=some x):Inv e (d' c f t x).1:=by
 have BU:fV e (eg x f)=fV e x:=by
  unfold fV eg;exact ug (vZ bl he b5)
 rcases oS c f t x with⟨_,U⟩ | ⟨_,_,h1⟩
 ·rw[U];exact h
 rcases h1 with⟨_,U⟩ | ⟨_,_,U⟩ | ⟨_,bm,_,U⟩ | ⟨_,_,_,U⟩
 ·rw[U];exact h.worker aa rfl (uy he bl b5) (qy aa rfl (fun k=>.inl k) id) (.inl ⟨rfl,fun k=>BU.trans k,rfl,fun k=>⟨k,rfl⟩⟩)
 ·rw[U];exact h.worker aa rfl (uy he bl b5) (qy aa rfl (fun k=>.inl k) id) (.inl ⟨rfl,fun k=>BU.trans k,rfl,fun k=>⟨k,rfl⟩⟩)
 ·rw[U];have aR:t.place=0:=by have:=(er aa).1;omega
  rw[aR]at aa;refine h.worker aa rfl (uy he bl b5) (qy aa rfl (fun k=>?_) (fun k=>(RN b5).symm.trans k)) (.inl ⟨rfl,id,rfl,fun k=>⟨k,rfl⟩⟩);rw[ux]at k;have:(f==e)=false:=by simpa using b5
  rw[this,Bool.or_false]at k;exact .inl k
 rw[U];exact h.worker (y:=x) aa (AG (er aa).2.2).symm (uy he bl b5) (qy aa (AG (er aa).2.2).symm (fun k=>.inl k) id) (.inl ⟨rfl,id,rfl,fun k=>⟨k,rfl⟩⟩)
theorem aao{n:Int}(h:0<=n):(n+1).toNat=n.toNat+1:=by omega
theorem aap{n:Int}:(n-1+1).toNat=n.toNat:=by rw[Int.sub_add_cancel]
theorem Bn{u:b'}(h:hg c e=some t):(if 0<=e then (c.tokens.set e.toNat u)[e.toNat]? else none)=some u:=by
 obtain⟨bm,_,U⟩:=wR h;rw[a6 bm];exact oO U
theorem Inv.over(h:Inv e c)(bt:hg c e=some t)(ao:t.going=true)(bm:¬0<t.place)(aa:b9 c t.place=some x)(hp:k' x e=true)
  (ah:t.bL=false/\x.bL.getD e.toNat false=false/\t.sum+x.bK.getD e.toNat 0=0):quiet e c/\((t.ct||jT e x)=false->∀z∈c.ap,jT e z=false):=by
 have aR:t.place=0:=by have:=(er aa).1;omega
 obtain⟨_,_,gM⟩:=er aa;rw[aR]at gM;have ae:gG e c 1=fm e x:=by rw[Er (k:=0) gM];simp[gG]
 have gZ:=h.token t bt ao;unfold Good at gZ;rw[aR]at gZ;change ((_/\gG e c 1+t.sum=_)\/0<gG e c 1+t.sum\/_) at gZ;rw[ae]at gZ;have CU:t.sum+fm e x=0:=ah.2.2;rcases gZ with⟨ed,CM⟩ | g | ⟨i,z,g1,g2,g3⟩ | g
 ·have key:∀z∈c.ap,k' z e=true/\(jT e z=true->(t.ct||jT e x)=true):=by
   intro z aR;obtain⟨i,hi⟩:=List.getElem?_of_mem aR;by_cases h1:i=0
   ·subst h1;rw[show c.ap[0]?=some x from gM]at hi;cases hi;exact⟨hp,fun k=>by rw[k,Bool.or_true]⟩
   obtain⟨cC,b6⟩:=ed i z (by omega) hi;exact⟨cC,fun k=>by rw[b6 k,Bool.true_or]⟩
  refine⟨⟨fun z aR=>(key z aR).1,by omega⟩,fun eY z aR=>?_⟩;cases Xl:jT e z with
  | false=>rfl
  | true=>rw[(key z aR).2 Xl]at eY;cases eY
 ·omega
 ·have:i=0:=by omega
  subst this;rw[show c.ap[0]?=some x from gM]at g2;cases g2;rw[show fV e x=false from ah.2.1]at g3;cases g3
 rw[ah.1]at g;cases g
theorem Inv.aqC(h:Inv e c)(bH:cF c=true)(bt:hg c e=some t)(aa:b9 c t.place=some x):Inv e (d' c e t x).1:=by
 obtain⟨i0,i1,i2⟩:=er aa;obtain⟨_,_,C9,_⟩:=rJ.1 (yO bH bt);rcases oS c e t x with⟨_,U⟩ | ⟨_,hp,h1⟩
 ·rw[U];exact h
 have whole:∀u:b',(u.going=true->Good e (setW (cP c e u) t.place (eg x e)) u)->Inv e (setW (cP c e u) t.place (eg x e)):=by
  intro u hu;have xK:∀k,gG e (setW (cP c e u) t.place (eg x e)) k=gG e c k:=fun k=>by
   have:=ya (fm e) (eg x e) (k:=k) i2;rw[show fm e (eg x e)=fm e x from rfl,Int.sub_self,ite_self,Int.add_zero]at this;exact this
  refine⟨?_,fun c4 fs ao=>?_,fun fs=>?_⟩
  ·rw[xK,show (setW (cP c e u) t.place (eg x e)).ap.length=c.ap.length from eQ];exact h.total
  ·rw[show hg (setW (cP c e u) t.place (eg x e)) e=some u from Bn bt]at fs;cases fs;exact hu ao
  obtain⟨q1,k1⟩:=h.y6 (qy (c:=c) (d:=setW (cP c e u) t.place (eg x e)) aa rfl (fun k=>.inl k) id fs);refine⟨fun z aR=>?_,k1⟩;rcases hn aR with aR | rfl
  ·exact q1 z aR
  exact hp
 have x3:∀(u:b') k,gG e (setW (cP c e u) t.place (eg x e)) k=gG e c k:=fun u k=>by
  have:=ya (fm e) (eg x e) (k:=k) i2;rw[show fm e (eg x e)=fm e x from rfl,Int.sub_self,ite_self,Int.add_zero]at this;exact this
 rcases h1 with⟨ao,U⟩ | ⟨ao,bm,U⟩ | ⟨ao,bm,ah,U⟩ | ⟨ao,bm,ah,U⟩
 ·rw[U];refine whole _ fun _=>.inl ⟨fun j z aM aR=>?_,?_⟩
  ·have:=bh aR;rw[show (setW (cP c e _) t.place (eg x e)).ap.length=c.ap.length from eQ]at this;change (c.ap.length:Int)-1<j at aM;omega
  rw[x3];change gG e c ((c.ap.length:Int)-1+1).toNat+0=iG e c;rw[show ((c.ap.length:Int)-1+1).toNat=c.ap.length by omega,Int.add_zero];exact h.total
 ·rw[U];have gZ:=h.token t bt ao;refine whole _ fun _=>?_
  unfold Good at gZ ⊢;rw[x3];change ((∀(i:Nat) z,t.place-1<i->_->_)/\gG e c (t.place-1+1).toNat+(t.sum+fm e x)=iG e c)\/0<gG e c (t.place-1+1).toNat+(t.sum+fm e x)\/(∃(i:Nat) (z:aP),(i:Int)<=t.place-1/\_)\/(t.bL||fV e x)=true;rw[aao i0,Er i2]at gZ;rw[aap];rcases gZ with⟨ed,CM⟩ | g | ⟨i,z,g1,g2,g3⟩ | g
  ·refine .inl ⟨fun j z aM aR=>?_,by omega⟩;change (c.ap.set t.place.toNat (eg x e))[j]?=some z at aR;rcases uf aR with⟨rfl,rfl⟩ | ⟨b5,aR⟩
   ·exact⟨hp,fun k=>by change (t.ct||jT e x)=true;rw[show jT e x=true from k,Bool.or_true]⟩
   obtain⟨cC,b6⟩:=ed j z (by omega) aR;exact⟨cC,fun k=>by change (t.ct||jT e x)=true;rw[b6 k,Bool.true_or]⟩
  ·exact .inr (.inl (by omega))
  ·by_cases hi:i=t.place.toNat
   ·subst hi;rw[i2]at g2;cases g2;exact .inr (.inr (.inr (by rw[g3,Bool.or_true])))
   exact .inr (.inr (.inl ⟨i,z,by omega,AF g2 hi,g3⟩))
  exact .inr (.inr (.inr (by rw[g,Bool.true_or])))
 ·rw[U];obtain⟨⟨q1,k1⟩,_⟩:=h.over bt ao bm aa hp ah;have aR:t.place=0:=by omega
  rw[aR]at i2 i1;have xK:∀k,((((c.ap.set 0 (told x e (t.ct||x.bA.getD e.toNat false))).take k).map (fm e)).sum)=gG e c k:=fun k=>by
   have:=ya (fm e) (told x e (t.ct||x.bA.getD e.toNat false)) (k:=k) i2;rw[show fm e (told x e (t.ct||x.bA.getD e.toNat false))=fm e x from rfl,Int.sub_self,ite_self,Int.add_zero]at this;exact this
  refine⟨?_,fun c4 fs GX=>?_,fun _=>⟨fun z aR=>?_,k1⟩⟩
  ·refine (xK _).trans ?_;rw[show (gd (setW (cP c e ⟨false,t.place,t.sum,t.bL,t.ct⟩) 0 (told x e (t.ct||x.bA.getD e.toNat false))) (c.news++hy (c.ap.length-1) e (t.ct||x.bA.getD e.toNat false))).ap.length=c.ap.length from eQ];exact h.total
  ·change (if 0<=e then (c.tokens.set e.toNat _)[e.toNat]? else none)=some c4 at fs;rw[Bn bt]at fs;cases fs;cases GX
  rcases hn aR with aR | rfl
  ·exact q1 z aR
  exact hp
 rw[U];refine⟨h.total,fun c4 fs GX=>?_,h.y6⟩;change (if 0<=e then (c.tokens.set e.toNat _)[e.toNat]? else none)=some c4 at fs;rw[Bn bt]at fs;cases fs;cases GX
theorem Inv.step{d:aU}{p:cE}(h:Inv e c)(he:0<=e/\e<=3)(bH:cF c=true)(st:Step c p d):Inv e d:=by
 cases st with
 | work x r q hk aa ae av=>
  have bz:=jH bH aa;obtain⟨_,_,af⟩:=En bz;refine h.worker aa rfl rfl (qy aa rfl (fun k=>.inl k) id) (.inl ⟨rfl,id,rfl,fun k=>?_⟩);obtain⟨cC,b6,eH⟩:=oP.1 k;rw[av]at b6;have kg:=b6 r (eF ..);refine⟨oP.2 ⟨cC,fun a ag=>b6 a (fc _ ag),fun a ag=>?_⟩,?_⟩
  ·rw[aak a ag];exact kg
  have ar:=J9 (h6.1 bz).1 (r:=r) (by rw[av];exact eF ..);unfold jT;dsimp only;split
  ·exact ug (vZ ar.1 he.1 kg)
  rfl
 | input x r t hk aa ae av hi=>
  refine h.worker aa rfl rfl (qy aa rfl (fun k=>.inl k) id) (.inl ⟨rfl,id,rfl,fun k=>⟨?_,rfl⟩⟩);obtain⟨cC,b6,eH⟩:=oP.1 k;rw[hi]at cC;refine oP.2 ⟨fun a ag=>cC a (fc _ ag),fun a ag=>?_,fun a ag=>by cases ag⟩;obtain rfl:a=r:=by simpa using ag
  have:=cC a (eF ..);omega
 | ey x r t hk aa ae aN=>
  refine h.worker aa rfl rfl (qy aa rfl (fun k=>.inl k) id) (.inl ⟨rfl,id,rfl,fun k=>⟨?_,rfl⟩⟩);obtain⟨cC,b6,eH⟩:=oP.1 k;rw[ae]at eH;refine oP.2 ⟨cC,fun a ag=>?_,fun a ag=>eH a (fc _ ag)⟩;rcases gY.1 ag with ag | ag
  ·exact b6 a ag
  obtain rfl:a=r:=by simpa using ag
  exact eH a (eF ..)
 | send x r t l hk aa ae aN af hsend=>
  obtain⟨_,_,_,e1⟩:=By hsend;have bz:=jH bH aa;obtain⟨zM,_,_⟩:=En bz;have ar:=J9 (h6.1 bz).2.1 (r:=r) (by rw[ae];exact eF ..);have bl:=J8 (e:=e) (m:=(eI l r).1) af;have sD:fm e (ma (iP x t) r.bc.a8)=fm e x+(if r.bc.a8=e then 1 else 0):=SD he ar zM;rw[e1,aal e _ _ r _ _ _ _ l rfl]at bl;refine h.worker aa (d:=setW (c0 c _ (eI l r).1) p.a _) rfl rfl (qy aa rfl (fun k=>.inl k) id) ?_;have sv:iG e (setW (c0 c (dF c.aF p.a (eE r.key c.aF.ap)) (eI l r).1) p.a (ma (iP x t) r.bc.a8))=iG e c+(if r.bc.a8=e then 1 else 0):=by
   rw[e1];change iG e (c0 c _ _)=_;omega
  by_cases sC:r.bc.a8=e
  ·rw[a6 sC]at sD sv;refine .inr (.inl ⟨?_,sD,id,sv⟩);rw[kq];intro k;obtain⟨_,_,eH⟩:=oP.1 k;exact eH r (by rw[ae];exact eF ..) sC
  rw[aX sC]at sD sv;refine .inl ⟨by omega,id,by omega,fun k=>⟨?_,rfl⟩⟩;obtain⟨cC,b6,eH⟩:=oP.1 k;rw[ae]at eH;exact oP.2 ⟨cC,b6,fun a ag=>eH a (fc _ ag)⟩
 | take l x hk dW af aa bt=>
  obtain⟨_,r,q,av,e2,e1⟩:=wU bt;have bz:=jH bH aa;obtain⟨zM,vr,_⟩:=En bz;have ar:=uH (JV (rI bH af) bt).2;rw[e2]at ar;have bl:=J8 (e:=e) (m:=(dJ l).1) af;have sD:fm e (hV x r)=fm e x+(if r.bc.a8=e then -1 else 0):=SD he ar zM;rw[e1,aam e r q l av l.cap l.fh (l.back+1) l.eV (l.dO+1)]at bl;rw[e2];refine h.worker aa (d:=setW (c0 c _ (dJ l).1) p.b _) rfl rfl (qy aa rfl (fun k=>.inl k) id) ?_;have sv:iG e (setW (c0 c (dF c.aF p.a p.b) (dJ l).1) p.b (hV x r))+(if r.bc.a8=e then 1 else 0)=iG e c:=by
   rw[e1];change iG e (c0 c _ _)+_=_;omega
  by_cases sC:r.bc.a8=e
  ·rw[a6 sC]at sD sv;refine .inr (.inr ⟨sv.symm,by omega,?_⟩);unfold fV hV;dsimp only;rw[sC];exact Bm (by omega)
  rw[aX sC]at sD sv;refine .inl ⟨by omega,fun k=>?_,by omega,fun k=>⟨?_,rfl⟩⟩
  ·unfold fV hV;dsimp only;rw[ug (vZ ar.1 he.1 sC)];exact k
  obtain⟨cC,b6,eH⟩:=oP.1 k;refine oP.2 ⟨cC,fun a ag=>?_,eH⟩;rcases gY.1 ag with ag | ag
  ·exact b6 a ag
  obtain rfl:a=r:=by simpa using ag
  exact sC
 | o3 l hk dW af ad=>
  rcases wV l with⟨k,_⟩ | ⟨_,_,_,e1⟩
  ·rw[ad]at k;cases k
  have bl:=J8 (e:=e) (m:=(gw l).1) af;have U:nS e (gw l).1=nS e l:=by rw[e1];rfl
  have au:iG e (c0 c (dF c.aF p.a p.b) (gw l).1)=iG e c:=by omega
  refine⟨by rw[au];exact h.total,fun t fs ao=>?_,fun fs=>⟨(h.y6 fs).1,by rw[au];exact (h.y6 fs).2⟩⟩;have gZ:=h.token t fs ao;unfold Good at gZ ⊢;rw[au];exact gZ
 | token t x cJ hk ig bm ax bt aa o5=>
  simp only[aW,ci]at ig;by_cases tQ:p.a=e
  ·subst tQ;exact h.aqC bH bt aa
  exact h.aqB he.1 ig.1 tQ aa
 | o6 k n x hk aL ax aa=>
  obtain⟨cC,b6,eH⟩:=Ep (x:=x) (n:=n) (e:=e);refine h.worker aa rfl rfl (qy aa rfl (fun q=>?_) (fun q=>?_)) (.inl ⟨cC,fun q=>b6.trans q,rfl,fun q=>⟨aan.trans q,eH⟩⟩)
  ·rw[Eo,lL]at q;rcases q with q | q
   ·exact .inl q
   exact .inr (lg.2 ⟨n,c8 aL,q⟩)
  unfold mi at q ⊢;rw[lg]at q ⊢;obtain⟨m,hm,q⟩:=q;refine⟨m,?_,q⟩;change m∈cutAt c.news k at hm;unfold cutAt at hm;rcases gY.1 hm with hm | hm
  ·exact uY hm
  exact zc hm
