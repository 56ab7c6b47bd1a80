/- The drawers' cursor: whatever is drawn, there is a cursor behind it and a number in range. -/
import Derived.Test.YtdkobdhckkjmeaaGreatB0
import Derived.Test.YtdkobdhckkjmeaaGreatT5
import Derived.Test.YtdkobdhckkjmeaaGreatR35
import Derived.Test.YtdkobdhckkjmeaaGreatGD
import Derived.Test.YtdkobdhckkjmeaaGreatC0
import Derived.Test.YtdkobdhckkjmeaaGreatP16
import Derived.Test.YtdkobdhckkjmeaaGreatR33
import Derived.Test.YtdkobdhckkjmeaaGreatP55
import Derived.Test.YtdkobdhckkjmeaaGreatP18
set_option linter.unusedVariables false
set_option linter.unusedSimpArgs false
namespace Go.Proofs.YtdkobdhckkjmeaaGreat
open Go.Sx Go.RowKit Go.Proofs.Tryz
def eU(n:Int):List D:=[.v (.int .u8 n)]
structure Cur where
 i:Int
 h:Int
def Cur.e(b:List Int)(c:Cur):List D:=[.sl 1 (b.map eU),I c.i,I c.h]
def Bytes(b:List Int):Prop:=b.length≤8388608∧∀x∈b,0≤x∧x≤255
def Cur.ok(b:List Int)(c:Cur):Prop:=Bytes b∧0≤c.i∧c.i≤b.length
theorem u8_of{P:Program}{t:TypeId}{ds:List D}(hu:P.underlying t=some (.int .u8))(h:ShD P t ds):∃n,ds=eU n∧0≤n∧n≤255:=by
 have h2:∃n,ds=[.v (.int .u8 n)]∧(Lit.int .u8 n).wf=true:=by cases h<;>simp_all
 obtain⟨n,e,hw⟩:=h2;refine⟨n,e,?_⟩;simp[Lit.wf]at hw;have h3:IntKind.u8.min=0:=rfl;rw[h3]at hw;exact hw
theorem qMN:prog.cellsOf 5=1:=by kernel_rfl
theorem qMO{ds:List D}(h:ShD prog 22 ds):∃xs:List Int,ds=[.sl 1 (xs.map eU)]∧(xs.length:Int)≤9223372036854775807∧∀a∈xs,(fun n=>0≤n∧n≤255) a:=
 qv0 eU (fun n=>0≤n∧n≤255) Tryz.underlying22 qMN (fun ds h=>u8_of Tryz.underlying5 h) h
theorem qtd{ad:AD}(h:ShA prog 22 ad):∃xs:List Int,ad=.one (.sl 1 (xs.map eU))∧(xs.length:Int)≤9223372036854775807∧∀a∈xs,(fun n=>0≤n∧n≤255) a:=by
 cases ad with
 | agg ds=>have:=h.2;simp[aggT,Tryz.underlying22]at this
 | one d=>
  obtain⟨x,e,hx⟩:=qMO h.1;obtain rfl:=(zG e).1;exact⟨x,rfl,hx⟩
theorem qte{P:Program}(a:Int)(n:Nat):∃m:Int,∀t x y,qbJ P .shr t x y (.int .i64 a) (.int .u64 (n:Int)) (.int .i64 m):=⟨_,fun _ _ _=>qMd _ _ _ _⟩
theorem qMP{P:Program}(a b:Int):∃m:Int,∀t x y,qbJ P .xor t x y (.int .i64 a) (.int .i64 b) (.int .i64 m):=⟨_,fun _ _ _=>qMe _ _ _⟩
theorem qnw{P:Program}(a:Int)(k:Nat)(hk:k<2 ^ 62):∃m:Int,(0≤m∧m≤k)∧∀t x y,qbJ P .and t x y (.int .i64 a) (.int .i64 (k:Int)) (.int .i64 m):=⟨_,qMg a k hk,fun _ _ _=>qMf _ _ _⟩
theorem qtf(b:List Int)(hb:Bytes b):∀(n i:Nat) (h:Int),i+n=b.length→0≤h∧h≤1073741823→∃h',qam prog (qaa f117 0) (qgV (b.map eU) i h) (.exit 0) (qkp (b.map eU) h')
 | 0,i,h,hi,hh=>⟨h,.last (qaf 0) (qMj ⟨by rw[zf,zb];omega,trivial⟩)⟩
 | n+1,i,h,hi,hh=>by
  have hl:=hb.1;obtain⟨x,hx⟩:=qal (xs:=b) (i:=i) (by omega);have hb:=hb.2 x (qag hx);by_cases h4:(i:Int)<4000
  ·obtain⟨m,hm,r⟩:=qnw (P:=prog) (h*131+x+7) 1073741823 (by decide);obtain⟨h',l⟩:=qtf b ‹Bytes b› n (i+1) m (by omega) hm;exact⟨h',.more (qMh ⟨lt1 (by omega),zap h4,⟨by omega,by omega⟩,lt0,lt2 (by omega),qac eU hx,⟨by omega,by omega⟩,⟨by omega,by omega⟩,⟨by omega,by omega⟩,r _ _ _,⟨by omega,by omega⟩,trivial⟩) l⟩
  ·exact⟨h,.last (qaf 0) (qMi ⟨lt1 (by omega),zt h4,trivial⟩)⟩
theorem qtg(b:List Int)(hb:Bytes b):∃c:Cur,c.ok b∧RetR prog 117 [.ro (.one (.sl 1 (b.map eU)))] (.newp [some 0,none,none] (c.e b)):=by
 have hl:=hb.1;obtain⟨h',l⟩:=qtf b hb b.length 0 (94701+(↑(b.map eU).length:Int)) (by omega) ⟨by omega,by simp;omega⟩;exact⟨⟨0,h'⟩,⟨hb,by dsimp only;omega,by dsimp only;omega⟩,qMk ⟨⟨by omega,by simp;omega⟩,l,trivial⟩⟩
theorem qkq(b:List Int)(c:Cur)(hc:c.ok b):∃(d:Cur) (n:Int),d.ok b∧(0≤n∧n≤255)∧RetR prog 253 [.cur (c.e b) (d.e b)] (.vals [.one (I n)]):=by
 obtain⟨⟨h1,h2⟩,h3,h4⟩:=hc;obtain⟨n3,r3⟩:=qte (P:=prog) (IntKind.i64.wrap (IntKind.i64.wrap (c.h*6364136223846793005)+1442695040888963407)) 33;obtain⟨n4,r4⟩:=qte (P:=prog) (IntKind.i64.wrap (IntKind.i64.wrap (c.h*6364136223846793005)+1442695040888963407)) 45;obtain⟨n5,r5⟩:=qMP (P:=prog) n3 n4;obtain⟨n6,m6,r6⟩:=qnw (P:=prog) n5 255 (by decide);by_cases hi:c.i<b.length
 ·obtain⟨x,hx⟩:=qal (xs:=b) (i:=c.i.toNat) (by omega);have hb:=h2 x (qag hx);obtain⟨n8,m8,r8⟩:=qnw (P:=prog) (IntKind.i64.wrap (n6+IntKind.i64.wrap x)) 255 (by decide);exact⟨⟨c.i+1,IntKind.i64.wrap (IntKind.i64.wrap (c.h*6364136223846793005)+1442695040888963407)⟩,n8,⟨⟨h1,h2⟩,by dsimp only;omega,by dsimp only;omega⟩,m8,qMl ⟨r3 _ _ _,r4 _ _ _,r5 _ _ _,r6 _ _ _,by rw[zi,zb];exact hi,h3,by rw[zb];exact hi,by rw[zr,hx];rfl,r8 _ _ _,⟨by omega,by omega⟩,trivial⟩⟩
 ·exact⟨⟨c.i,IntKind.i64.wrap (IntKind.i64.wrap (c.h*6364136223846793005)+1442695040888963407)⟩,n6,⟨⟨h1,h2⟩,h3,h4⟩,m6,qMm ⟨r3 _ _ _,r4 _ _ _,r5 _ _ _,r6 _ _ _,by rw[zf,zb];exact hi,trivial⟩⟩
theorem qb1(b:List Int)(c:Cur)(k:Int)(hc:c.ok b)(hk:1≤k∧k≤1000000):∃(d:Cur) (n:Int),d.ok b∧(0≤n∧n<k)∧RetR prog 139 [.cur (c.e b) (d.e b),.ro (.one (I k))] (.vals [.one (I n)]):=by
 have md:∀m:Int,0≤m→0≤m.tmod k∧m.tmod k<k:=fun m hm=>⟨Int.tmod_nonneg _ hm,Int.tmod_lt_of_pos m (by omega)⟩
 obtain⟨d1,n1,o1,b1,r1⟩:=qkq b c hc;by_cases h:k≤256
 ·exact⟨d1,_,o1,md n1 b1.1,qMn ⟨zt (by omega),zap h,r1,by omega,trivial⟩⟩
 ·obtain⟨d2,n2,o2,b2,r2⟩:=qkq b d1 o1;obtain⟨d3,n3,o3,b3,r3⟩:=qkq b d2 o2;obtain⟨d4,n4,o4,b4,r4⟩:=qkq b d3 o3;exact⟨d4,_,o4,md _ (by omega),qMo ⟨zt (by omega),zt h,r1,r2,r3,r4,⟨by omega,by omega⟩,⟨by omega,by omega⟩,⟨by omega,by omega⟩,⟨by omega,by omega⟩,⟨by omega,by omega⟩,⟨by omega,by omega⟩,by omega,trivial⟩⟩
theorem qth(b:List Int)(c:Cur)(k:Int)(hc:c.ok b)(hk:1≤k∧k≤1000000):∃(d:Cur) (x:Bool),d.ok b∧RetR prog 137 [.cur (c.e b) (d.e b),.ro (.one (I k))] (.vals [.one (B x)]):=by
 obtain⟨d,n,o,_,r⟩:=qb1 b c k hc hk;exact⟨d,_,o,qMp ⟨r,trivial⟩⟩
theorem qMQ(b:List Int)(c:Cur)(xs:List Int)(hc:c.ok b)(hk:1≤xs.length∧xs.length≤1000):∃(d:Cur) (n:Int),d.ok b∧n∈xs∧RetR prog 141 [.cur (c.e b) (d.e b),.ro (.one (.sl 1 (xs.map eI)))] (.vals [.one (I n)]):=by
 obtain⟨d,n,o,hb,r⟩:=qb1 b c (xs.length:Int) hc (by omega);obtain⟨x,hx⟩:=qal (xs:=xs) (i:=n.toNat) (by omega);refine⟨d,x,o,qag hx,qMq ⟨?_,hb.1,by rw[zb];exact hb.2,by rw[zr,hx];rfl,trivial⟩⟩;rw[zb];exact r
end Go.Proofs.YtdkobdhckkjmeaaGreat
namespace Go.Proofs.YtdkobdhckkjmeaaGreat
open Go.Sx Go.RowKit Go.Proofs.Tryz
def Input(r:Record):Prop:=r.op=0∧r.stamp.turn=0∧(0≤r.stamp.epoch∧r.stamp.epoch≤2)∧(0≤r.key∧r.key<12)∧(0≤r.val∧r.val<40)
theorem qti(b:List Int):∀(n i:Nat) (e:Int) (xs:List Record) (c:Cur),i+n=5→c.ok b→(0≤e∧e≤2)→xs.length≤i→(∀r∈xs,Input r)→
  ∃(ys:List Record) (d:Cur),d.ok b∧ys.length≤5∧(∀r∈ys,Input r)∧qam prog (qaa f119 0) (qij (b.map eU) i e (xs.map Record.e) c.i c.h) (.exit 0) (qns (b.map eU) (ys.map Record.e) d.i d.h)
 | n,i,e,xs,c,hin,hc,he,hl,hx=>by
  obtain⟨d1,m,o1,hb,r1⟩:=qb1 b c 6 hc (by omega);by_cases h:(i:Int)<m
  ·match n with
   | 0=>omega
   | n+1=>
    obtain⟨d2,a,o2,ha,r2⟩:=qb1 b d1 2 o1 (by omega);obtain⟨d3,k,o3,hk,r3⟩:=qb1 b d2 12 o2 (by omega);obtain⟨d4,v,o4,hv,r4⟩:=qb1 b d3 40 o3 (by omega);have br:=qjw (e+a) 0 2;have hbr:0≤qaV (e+a) 0 2∧qaV (e+a) 0 2≤2:=by
     unfold qaV;simp only[show ¬(2:Int)<0 by omega,zci];split<;>(try split)<;>omega
    obtain⟨ys,d,o,y1,y2,l⟩:=qti b n (i+1) (qaV (e+a) 0 2) (xs++[⟨0,⟨qaV (e+a) 0 2,0⟩,k,v⟩]) d4 (by omega) o4 hbr (by simp;omega) (fun r hr=>by
     rcases zaz.1 hr with hr | hr
     ·exact hx r hr
     ·rw[List.mem_singleton]at hr;subst hr;exact⟨rfl,rfl,hbr,hk,hv⟩)
    refine⟨ys,d,o,y1,y2,.more ?_ l⟩;rw[zU];exact qMB ⟨r1,zap h,r2,⟨by omega,by omega⟩,br,r3,r4,by simp;omega,by simp;omega,qat (fun d hd=>by simp only[zL,zbu,or_false]at hd;rcases hd with rfl | rfl | rfl | rfl | rfl<;>exact⟨_,rfl⟩),⟨by omega,by omega⟩,trivial⟩
  ·exact⟨xs,d1,o1,by omega,hx,.last (qaf 0) (qMC ⟨r1,zt h,trivial⟩)⟩
theorem qtj(b:List Int)(c:Cur)(hc:c.ok b):∃(d:Cur) (xs:List Record),d.ok b∧xs.length≤5∧(∀r∈xs,Input r)∧RetR prog 119 [.cur (c.e b) (d.e b)] (.vals [.one (.sl 5 (xs.map Record.e))]):=by
 obtain⟨ys,d,o,y1,y2,l⟩:=qti b 5 0 0 [] c rfl hc (by omega) (by simp) (by simp);exact⟨d,ys,o,y1,y2,qMD ⟨l,trivial⟩⟩
end Go.Proofs.YtdkobdhckkjmeaaGreat
namespace Go.Proofs.YtdkobdhckkjmeaaGreat
open Go.Sx Go.RowKit Go.Proofs.Tryz
def qdG(k a b:Int):List Node:=[⟨1,0,0,[1]⟩,⟨k,0,0,[2,5]⟩,⟨4,1+a,0,[3]⟩,⟨2,b,0,[4]⟩,⟨7,0,0,[1]⟩,⟨8,0,0,[]⟩]
def qbM(k a b c:Int):Nat→List Node
 | 0=>(qdG k a b).set 3 ⟨3,1+c,0,[4]⟩
 | 1=>(qdG k a b).set 4 ⟨8,0,0,[]⟩
 | 2=>(qdG k a b).set 2 ⟨4,1+a,0,[3,4]⟩
 | 3=>(qdG k a b++[(⟨8,0,0,[]⟩:Node)]).set 0 ⟨1,0,0,[1,6]⟩
 | _=>qdG k a b
structure Drawn (g:Graph):Prop where
 nodes:∃(k a b c:Int) (v:Nat),(k=5∨k=6)∧(0≤a∧a<3)∧(0≤b∧b<4)∧(0≤c∧c<3)∧v≤4∧g.nodes=qbM k a b c v
 workers:1≤g.workers∧g.workers≤3
 cap:1≤g.cap∧g.cap≤3
theorem Drawn.ok{g:Graph}(h:Drawn g):qax g=true:=by
 obtain⟨⟨k,a,b,c,v,hk,ha,hb,hc,hv,hn⟩,hw,hcap⟩:=h;obtain⟨nodes,workers,cap⟩:=g;simp only at hn hw hcap;have ea:a=0∨a=1∨a=2:=by omega
 have eb:b=0∨b=1∨b=2∨b=3:=by omega
 have ec:c=0∨c=1∨c=2:=by omega
 have ev:v=0∨v=1∨v=2∨v=3∨v=4:=by omega
 have ew:workers=1∨workers=2∨workers=3:=by omega
 have ep:cap=1∨cap=2∨cap=3:=by omega
 have key:∀k∈[(5:Int),6],∀a∈[(0:Int),1,2],∀b∈[(0:Int),1,2,3],∀c∈[(0:Int),1,2],∀v∈[0,1,2,3,4],(!(anyI (qbw ⟨qbM k a b c v,1,1⟩) 0 (qbM k a b c v))&&decide ((qbM k a b c v).length≤7)&&decide (1≤(qbM k a b c v).length))=true:=by decide +kernel
 have:=key k (by rcases hk with h | h<;>simp[h]) a (by rcases ea with h | h | h<;>simp[h]) b (by rcases eb with h | h | h | h<;>simp[h]) c (by rcases ec with h | h | h<;>simp[h]) v (by rcases ev with h | h | h | h | h<;>simp[h]);simp only[zj,zi]at this;obtain⟨⟨h1,h2⟩,h3⟩:=this;subst hn;have hnb:qbw ⟨qbM k a b c v,workers,cap⟩=qbw ⟨qbM k a b c v,1,1⟩:=rfl;unfold qax;simp only[zj];rw[hnb];refine⟨⟨⟨?_,?_⟩,?_⟩,h1⟩
 ·simp only[inR,zj,zi];omega
 ·simp only[inR,zj,zi];omega
 ·simp only[inR,zj,zi];omega
theorem qtk(b:List Int)(c:Cur)(hc:c.ok b):∃(d:Cur) (g:Graph),d.ok b∧Drawn g∧RetR prog 118 [.cur (c.e b) (d.e b)] (.vals [.agg g.e]):=by
 obtain⟨d1,n1,o1,h1,r1⟩:=qb1 b c 3 hc (by omega);obtain⟨d2,n2,o2,h2,r2⟩:=qb1 b d1 3 o1 (by omega);obtain⟨d3,x,o3,r3⟩:=qth b d2 3 o2 (by omega);obtain⟨d4,n4,o4,h4,r4⟩:=qb1 b d3 3 o3 (by omega);obtain⟨d5,n5,o5,h5,r5⟩:=qb1 b d4 4 o4 (by omega);obtain⟨d6,n6,o6,h6,r6⟩:=qb1 b d5 3 o5 (by omega);obtain⟨d7,n7,o7,h7,r7⟩:=qb1 b d6 6 o6 (by omega);have i1:inInt .i64 (1+n1):=⟨by omega,by omega⟩
 have i2:inInt .i64 (1+n2):=⟨by omega,by omega⟩
 have i4:inInt .i64 (1+n4):=⟨by omega,by omega⟩
 have i6:inInt .i64 (1+n6):=⟨by omega,by omega⟩
 have fin:∀(k:Int) (v:Nat) {ds:List (List D)},(k=5∨k=6)→v≤4→FitR ds ((qbM k n4 n5 n6 v).map Node.e)→RetR prog 118 [.cur (c.e b) (d7.e b)] (.vals [.agg [.sl 4 ds,I (1+n1),I (1+n2)]])→
   ∃(d:Cur) (g:Graph),d.ok b∧Drawn g∧RetR prog 118 [.cur (c.e b) (d.e b)] (.vals [.agg g.e]):=by
  intro k v ds hk hv hf hr;exact⟨d7,⟨qbM k n4 n5 n6 v,1+n1,1+n2⟩,o7,⟨⟨k,n4,n5,n6,v,hk,h4,h5,h6,hv,rfl⟩,by dsimp only;omega,by dsimp only;omega⟩,
   hr.fit (.cons (.agg (.cons (.sl 4 hf) (FitE.refl _))) .nil)⟩
 have f1:∀d,Fit d d:=.refl;by_cases e0:n7=0
 ·cases x
  ·exact fin 5 0 (.inl rfl) (by omega) (by repeat (first | exact .refl _ | constructor)) (qMw _ _ _ _ _ _ _ _ _ _ _ _ _ _ _ _ _ _ _ _ _ _ _ _ _ _ _ _ ⟨r1,i1,r2,i2,r3,rfl,r4,i4,r5,r6,i6,r7,by simp[e0],by omega,by simp,rfl,trivial⟩)
  ·exact fin 6 0 (.inr rfl) (by omega) (by repeat (first | exact .refl _ | constructor)) (qMr _ _ _ _ _ _ _ _ _ _ _ _ _ _ _ _ _ _ _ _ _ _ _ _ _ _ _ _ ⟨r1,i1,r2,i2,r3,rfl,r4,i4,r5,r6,i6,r7,by simp[e0],by omega,by simp,rfl,trivial⟩)
 by_cases e1:n7=1
 ·cases x
  ·exact fin 5 1 (.inl rfl) (by omega) (by repeat (first | exact .refl _ | constructor)) (qMx _ _ _ _ _ _ _ _ _ _ _ _ _ _ _ _ _ _ _ _ _ _ _ _ _ _ _ _ ⟨r1,i1,r2,i2,r3,rfl,r4,i4,r5,r6,i6,r7,by simp[e0],by simp[e1],by omega,by simp,rfl,trivial⟩)
  ·exact fin 6 1 (.inr rfl) (by omega) (by repeat (first | exact .refl _ | constructor)) (qMs _ _ _ _ _ _ _ _ _ _ _ _ _ _ _ _ _ _ _ _ _ _ _ _ _ _ _ _ ⟨r1,i1,r2,i2,r3,rfl,r4,i4,r5,r6,i6,r7,by simp[e0],by simp[e1],by omega,by simp,rfl,trivial⟩)
 by_cases e2:n7=2
 ·cases x
  ·exact fin 5 2 (.inl rfl) (by omega) (by repeat (first | exact .refl _ | constructor)) (qMy _ _ _ _ _ _ _ _ _ _ _ _ _ _ _ _ _ _ _ _ _ _ _ _ _ _ _ _ ⟨r1,i1,r2,i2,r3,rfl,r4,i4,r5,r6,i6,r7,by simp[e0],by simp[e1],by simp[e2],by omega,by simp,rfl,trivial⟩)
  ·exact fin 6 2 (.inr rfl) (by omega) (by repeat (first | exact .refl _ | constructor)) (qMt _ _ _ _ _ _ _ _ _ _ _ _ _ _ _ _ _ _ _ _ _ _ _ _ _ _ _ _ ⟨r1,i1,r2,i2,r3,rfl,r4,i4,r5,r6,i6,r7,by simp[e0],by simp[e1],by simp[e2],by omega,by simp,rfl,trivial⟩)
 by_cases e3:n7=3
 ·cases x
  ·exact fin 5 3 (.inl rfl) (by omega) (by repeat (first | exact .refl _ | constructor)) (qMz _ _ _ _ _ _ _ _ _ _ _ _ _ _ _ _ _ _ _ _ _ _ _ _ _ _ _ _ ⟨r1,i1,r2,i2,r3,rfl,r4,i4,r5,r6,i6,r7,by simp[e0],by simp[e1],by simp[e2],by simp[e3],by simp,by simp,by omega,by simp,rfl,trivial⟩)
  ·exact fin 6 3 (.inr rfl) (by omega) (by repeat (first | exact .refl _ | constructor)) (qMu _ _ _ _ _ _ _ _ _ _ _ _ _ _ _ _ _ _ _ _ _ _ _ _ _ _ _ _ ⟨r1,i1,r2,i2,r3,rfl,r4,i4,r5,r6,i6,r7,by simp[e0],by simp[e1],by simp[e2],by simp[e3],by simp,by simp,by omega,by simp,rfl,trivial⟩)
 ·cases x
  ·exact fin 5 4 (.inl rfl) (by omega) (by repeat (first | exact .refl _ | constructor)) (qMA ⟨r1,i1,r2,i2,r3,rfl,r4,i4,r5,r6,i6,r7,by simp[e0],by simp[e1],by simp[e2],by simp[e3],trivial⟩)
  ·exact fin 6 4 (.inr rfl) (by omega) (by repeat (first | exact .refl _ | constructor)) (qMv ⟨r1,i1,r2,i2,r3,rfl,r4,i4,r5,r6,i6,r7,by simp[e0],by simp[e1],by simp[e2],by simp[e3],trivial⟩)
def qil(p:Pick):Prop:=(1≤p.kind∧p.kind≤7)∧(0≤p.a∧p.a<3)∧(0≤p.b∧p.b<3)
theorem qMR(b:List Int)(c:Cur)(hc:c.ok b):∃(d:Cur) (p:Pick),d.ok b∧qil p∧RetR prog 242 [.cur (c.e b) (d.e b)] (.vals [.agg p.e]):=by
 obtain⟨d1,k,o1,h1,r1⟩:=qMQ b c [1,1,1,2,3,3,3,4,4,5,6,6,7] hc (by simp);obtain⟨d2,a,o2,h2,r2⟩:=qb1 b d1 3 o1 (by omega);have hk:1≤k∧k≤7:=by
  simp only[zL,zbu,or_false]at h1;omega
 by_cases e4:k=4
 ·obtain⟨d3,m,o3,h3,r3⟩:=qb1 b d2 2 o2 (by omega);have j1:inInt .i64 (a+1):=⟨by omega,by omega⟩
  have j2:inInt .i64 (a+1+m):=⟨by omega,by omega⟩
  exact⟨d3,⟨k,a,(a+1+m).tmod 3⟩,o3,⟨hk,h2,Int.tmod_nonneg _ (by omega),Int.tmod_lt_of_pos _ (by omega)⟩,qMF ⟨r1,r2,by simp[e4],qME _ _ _ _ _ _ _ _ ⟨j1,r3,j2,by decide,trivial⟩,trivial⟩⟩
 by_cases e5:k=5
 ·obtain⟨d3,m,o3,h3,r3⟩:=qb1 b d2 2 o2 (by omega);have j1:inInt .i64 (a+1):=⟨by omega,by omega⟩
  have j2:inInt .i64 (a+1+m):=⟨by omega,by omega⟩
  exact⟨d3,⟨k,a,(a+1+m).tmod 3⟩,o3,⟨hk,h2,Int.tmod_nonneg _ (by omega),Int.tmod_lt_of_pos _ (by omega)⟩,qMH ⟨r1,r2,by simp[e4],by simp[e5],qMG _ _ _ _ _ _ _ _ ⟨j1,r3,j2,by decide,trivial⟩,trivial⟩⟩
 ·exact⟨d2,⟨k,a,0⟩,o2,⟨hk,h2,by dsimp only;omega⟩,qMI ⟨r1,r2,by simp[e4],by simp[e5],trivial⟩⟩
theorem flatP(p:Pick):Flat [p.e]:=qat fun d hd=>by
 simp only[Pick.e,zL,zbu,or_false]at hd;rcases hd with rfl | rfl | rfl<;>exact⟨_,rfl⟩
theorem qtl(b:List Int)(m:Nat)(hm:m≤1000):∀(n i:Nat) (xs:List Pick) (c:Cur),i+n=m+1→c.ok b→xs.length≤i→(∀p∈xs,qil p)→
  ∃(ys:List Pick) (d:Cur),d.ok b∧ys.length≤m+1∧(∀p∈ys,qil p)∧qam prog (qaa f120 0) (qik (b.map eU) m i (xs.map Pick.e) c.i c.h) (.exit 0) (qnv (b.map eU) (ys.map Pick.e) d.i d.h)
 | n,i,xs,c,hin,hc,hl,hx=>by
  obtain⟨d1,k,o1,hk,r1⟩:=qb1 b c ((m:Int)+1) hc (by omega);by_cases h:(i:Int)<k
  ·match n with
   | 0=>omega
   | n+1=>
    obtain⟨d2,p,o2,hp,r2⟩:=qMR b d1 o1;obtain⟨ys,d,o,y1,y2,l⟩:=qtl b m hm n (i+1) (xs++[p]) d2 (by omega) o2 (by simp;omega) (fun z hz=>by
     rcases zaz.1 hz with hz | hz
     ·exact hx z hz
     ·rw[List.mem_singleton]at hz;subst hz;exact hp)
    refine⟨ys,d,o,y1,y2,.more ?_ l⟩;rw[zU];exact qMJ ⟨⟨by omega,by omega⟩,r1,zap h,r2,by simp;omega,by simp;omega,flatP p,⟨by omega,by omega⟩,trivial⟩
  ·exact⟨xs,d1,o1,by omega,hx,.last (qaf 0) (qMK ⟨⟨by omega,by omega⟩,r1,zt h,trivial⟩)⟩
theorem qtm(b:List Int)(c:Cur)(m:Nat)(hm:m≤1000)(hc:c.ok b):∃(d:Cur) (ps:List Pick),d.ok b∧ps.length≤m+1∧(∀p∈ps,qil p)∧RetR prog 120 [.cur (c.e b) (d.e b),.ro (.one (I m))] (.vals [.one (.sl 3 (ps.map Pick.e))]):=by
 obtain⟨ys,d,o,y1,y2,l⟩:=qtl b m hm (m+1) 0 [] c (by omega) hc (by simp) (by simp);exact⟨d,ys,o,y1,y2,qML ⟨l,trivial⟩⟩
theorem qMS(b:List Int)(hb:Bytes b):∃(g:Graph) (xs:List Record) (ps:List Pick),Drawn g∧(xs.length≤5∧∀r∈xs,Input r)∧(ps.length≤81∧∀p∈ps,qil p)∧
  Rt 16 [.one (.sl 1 (b.map eU))] [.agg g.e,.one (.sl 5 (xs.map Record.e)),.one (.sl 3 (ps.map Pick.e))]:=by
 obtain⟨c,hc,r0⟩:=qtg b hb;obtain⟨d1,g,o1,hg,r1⟩:=qtk b c hc;obtain⟨d2,xs,o2,x1,x2,r2⟩:=qtj b d1 o1;obtain⟨d3,ps,o3,p1,p2,r3⟩:=qtm b d2 80 (by omega) o2;exact⟨g,xs,ps,hg,⟨x1,x2⟩,⟨p1,p2⟩,qMM ⟨r0,r1,r2,r3,trivial⟩⟩
end Go.Proofs.YtdkobdhckkjmeaaGreat
namespace Go.Proofs.YtdkobdhckkjmeaaGreat
open Go.Sx Go.RowKit Go.Proofs.Tryz
theorem Drawn.size{g:Graph}(h:Drawn g):g.sz≤100:=by
 obtain⟨⟨k,a,b,c,v,hk,ha,hb,hc,hv,hn⟩,hw,hcap⟩:=h;obtain⟨nodes,workers,cap⟩:=g;simp only at hn;subst hn;have e:(⟨qbM k a b c v,workers,cap⟩:Graph).sz=szS Node.sz (qbM k a b c v):=rfl;rw[e];have ev:v=0∨v=1∨v=2∨v=3∨v=4:=by omega
 rcases ev with rfl | rfl | rfl | rfl | rfl<;>simp[szS,qbM,qdG,Node.sz]
theorem Input.fine{r:Record}(h:Input r):qcp r=false:=by
 obtain⟨h1,h2,h3,h4,h5⟩:=h;have ok:qaC r=true:=by
  simp only[qaC,qbb,qaJ,inR,zj,zi,h1,h2];omega
 simp[qcp,ok,h1,h2]
theorem qkr{g:Graph}{xs:List Record}(hg:Drawn g)(hl:xs.length≤6)(hx:∀r∈xs,Input r):newOk g xs=true:=
 qii.2 ⟨hg.ok,by omega,zP.2 fun r hr=>by simp[(hx r hr).fine]⟩
end Go.Proofs.YtdkobdhckkjmeaaGreat
namespace Go.Proofs.YtdkobdhckkjmeaaGreat
open Go.Sx Go.RowKit Go.Proofs.Tryz
structure Recs (F I:Record→Prop) (c:Cluster):Prop where
 w:∀x∈c.workers,∀r,r∈x.queue∨r∈x.staged→F r
 l:∀l∈c.links,∀r∈l.queue,F r
 i:∀x∈c.workers,∀r∈x.inputs,I r
theorem Recs.setW{F I:Record→Prop}{c:Cluster}{i:Int}{y:Worker}(h:Recs F I c)(h1:∀r,r∈y.queue∨r∈y.staged→F r)(h2:∀r∈y.inputs,I r):Recs F I (setW c i y):=
 ⟨fun x hx=>by
  rcases zbf hx with hx | rfl
  ·exact h.w x hx
  ·exact h1,h.l,fun x hx=>by
  rcases zbf hx with hx | rfl
  ·exact h.i x hx
  ·exact h2⟩
theorem Recs.setL{F I:Record→Prop}{c:Cluster}{i:Int}{m:Link}(h:Recs F I c)(h1:∀r∈m.queue,F r):Recs F I (setL c i m):=
 ⟨h.w,fun l hl=>by
  rcases zbf hl with hl | rfl
  ·exact h.l l hl
  ·exact h1,h.i⟩
theorem Recs.at{F I:Record→Prop}{c:Cluster}{i:Int}{x:Worker}(h:Recs F I c)(hx:wAt c i=some x):(∀r,r∈x.queue∨r∈x.staged→F r)∧∀r∈x.inputs,I r:=
 ⟨h.w x (qag (qaD hx).2.2),h.i x (qag (qaD hx).2.2)⟩
theorem Recs.setT{F I:Record→Prop}{c:Cluster}{i:Int}{u:Token}(h:Recs F I c):Recs F I (setT c i u):=⟨h.w,h.l,h.i⟩
theorem Recs.tokenAt{F I:Record→Prop}{c:Cluster}{e:Int}{t:Token}{x:Worker}(h:Recs F I c)(hx:wAt c t.place=some x):Recs F I (tokenAt c e t x).1:=by
 obtain⟨h1,h2⟩:=h.at hx;rcases qcX c e t x with⟨_,k⟩ | ⟨_,_,⟨_,k⟩ | ⟨_,_,k⟩ | ⟨_,h0,_,k⟩ | ⟨_,_,_,k⟩⟩
 ·rw[k];exact h
 ·rw[k];exact h.setT.setW h1 h2
 ·rw[k];exact h.setT.setW h1 h2
 ·rw[k];have k2:=(h.setT (i:=e) (u:=⟨false,t.place,t.sum,t.black,t.capped⟩)).setW (i:=0) (y:=told x e (t.capped||x.caps.getD e.toNat false)) h1 h2;exact⟨k2.w,k2.l,k2.i⟩
 ·rw[k];exact⟨h.w,h.l,h.i⟩
theorem Recs.step{F I:Record→Prop}{c d:Cluster}{p:Pick}(h:Recs F I c)(hI:∀r,I r→F r)(hF:∀r cs,F r→qbB c.graph r=false→∀q∈(qav c.graph cs r).2.1,F q)(hok:qai c=true)(st:Step c p d):Recs F I d:=by
 cases st with
 | work x r q hk hx hs hq=>
  obtain⟨h1,h2⟩:=h.at hx;have hb:=(qbd.1 (qbu hok hx)).1;rw[hq,qdc]at hb;refine h.setW (fun a ha=>?_) h2;rcases ha with ha | ha
  ·exact h1 a (.inl (by rw[hq];exact zg _ ha))
  ·exact hF r _ (h1 r (.inl (by rw[hq];exact zm ..))) hb.1 a ha
 | input x r t hk hx hs hq hi=>
  obtain⟨h1,h2⟩:=h.at hx;rw[hi]at h2;refine h.setW (fun a ha=>?_) (fun a ha=>h2 a (zg _ ha));rcases ha with ha | ha
  ·obtain rfl:a=r:=by simpa using ha
   exact hI a (h2 a (zm ..))
  ·cases ha
 | keep x r t hk hx hs ho=>
  obtain⟨h1,h2⟩:=h.at hx;rw[hs]at h1;refine h.setW (fun a ha=>?_) h2;rcases ha with ha | ha
  ·rcases zaz.1 ha with ha | ha
   ·exact h1 a (.inl ha)
   ·obtain rfl:a=r:=by simpa using ha
    exact h1 a (.inr (zm ..))
  ·exact h1 a (.inr (zg _ ha))
 | send x r t l hk hx hs ho hl hsend=>
  obtain⟨_,_,_,e1⟩:=qh1 hsend;obtain⟨h1,h2⟩:=h.at hx;rw[hs]at h1;refine (h.setL (i:=qaw c.graph p.a (qay r.key c.graph.workers)) (m:=(qaz l r).1) fun a ha=>?_).setW (c:=Go.Proofs.YtdkobdhckkjmeaaGreat.setL c _ _) (fun a ha=>h1 a (ha.imp id (zg _))) h2;rw[e1]at ha;rcases zaz.1 ha with ha | ha
  ·exact h.l l (qag (qbl hl).2.2) a ha
  ·obtain rfl:a=r:=by simpa using ha
   exact h1 a (.inr (zm ..))
 | take l x hk hab hl hx ht=>
  obtain⟨_,r,q,hq,e2,e1⟩:=qfK ht;obtain⟨h1,h2⟩:=h.at hx;have h3:=h.l l (qag (qbl hl).2.2);rw[hq]at h3;refine (h.setL (i:=qaw c.graph p.a p.b) (m:=(qaq l).1) fun a ha=>?_).setW (c:=Go.Proofs.YtdkobdhckkjmeaaGreat.setL c _ _) (fun a ha=>?_) h2
  ·rw[e1]at ha;exact h3 a (zg _ ha)
  ·rcases ha with ha | ha
   ·rcases zaz.1 ha with ha | ha
    ·exact h1 a (.inl ha)
    ·obtain rfl:a=_:=by simpa using ha
     rw[e2];exact h3 r (zm ..)
   ·exact h1 a (.inr ha)
 | credit l hk hab hl hc=>
  rcases qfL l with⟨k,_⟩ | ⟨_,_,_,e1⟩
  ·rw[hc]at k;cases k
  refine h.setL fun a ha=>?_
  rw[e1]at ha;exact h.l l (qag (qbl hl).2.2) a ha
 | token t x x0 hk hin h0 hd ht hx hdid=>exact h.tokenAt hx
 | hear k n x hk hn hd hx=>
  have:Recs F I (Go.Proofs.YtdkobdhckkjmeaaGreat.setW c p.a (hears x n)):=by
   obtain⟨h1,h2⟩:=h.at hx;unfold hears;split
   ·exact h.setW h1 h2
   ·exact h.setW h1 h2
  exact⟨this.w,this.l,this.i⟩
theorem qtn{g:Graph}{k a b c:Int}{v:Nat}(hv:v≤4)(hn:g.nodes=qbM k a b c v){op:Int}(h0:0≤op)(h1:op<g.nodes.length):
  ∃y,qaN g op=some y∧((op=0∧y.kind=1∧(y.outs=[1]∨y.outs=[1,6]))∨(op=1∧y.kind=k∧y.outs=[2,5])∨(op=2∧y.kind=4∧y.a=1+a∧(y.outs=[3]∨y.outs=[3,4]))∨
   (op=3∧((y.kind=2∧y.a=b)∨y.kind=3)∧y.outs=[4])∨(op=4∧((y.kind=7∧y.outs=[1])∨(y.kind=8∧y.outs=[])))∨((op=5∨op=6)∧y.kind=8∧y.outs=[])):=by
 unfold qaN;rw[zp h0];rw[hn]at h1 ⊢;have e:op=0∨op=1∨op=2∨op=3∨op=4∨op=5∨op=6:=by
  have:(qbM k a b c v).length≤7:=by
   have hv':v=0∨v=1∨v=2∨v=3∨v=4:=by omega
   rcases hv' with rfl | rfl | rfl | rfl | rfl<;>exact Nat.le_of_ble_eq_true rfl
  omega
 have hv':v=0∨v=1∨v=2∨v=3∨v=4:=by omega
 rcases e with rfl | rfl | rfl | rfl | rfl | rfl | rfl
 ·rcases hv' with rfl | rfl | rfl | rfl | rfl
  all_goals exact⟨_,rfl,.inl ⟨rfl,rfl,by first | exact .inl rfl | exact .inr rfl⟩⟩
 ·rcases hv' with rfl | rfl | rfl | rfl | rfl
  all_goals exact⟨_,rfl,.inr (.inl ⟨rfl,rfl,rfl⟩)⟩
 ·rcases hv' with rfl | rfl | rfl | rfl | rfl
  all_goals exact⟨_,rfl,.inr (.inr (.inl ⟨rfl,rfl,rfl,by first | exact .inl rfl | exact .inr rfl⟩))⟩
 ·rcases hv' with rfl | rfl | rfl | rfl | rfl
  all_goals exact⟨_,rfl,.inr (.inr (.inr (.inl ⟨rfl,by first | exact .inr rfl | exact .inl ⟨rfl,rfl⟩,rfl⟩)))⟩
 ·rcases hv' with rfl | rfl | rfl | rfl | rfl
  all_goals exact⟨_,rfl,.inr (.inr (.inr (.inr (.inl ⟨rfl,by first | exact .inl ⟨rfl,rfl⟩ | exact .inr ⟨rfl,rfl⟩⟩))))⟩
 ·rcases hv' with rfl | rfl | rfl | rfl | rfl
  all_goals exact⟨_,rfl,.inr (.inr (.inr (.inr (.inr ⟨.inl rfl,rfl,rfl⟩))))⟩
 ·rcases hv' with rfl | rfl | rfl | rfl | rfl
  ·exact absurd h1 (by simp[qbM,qdG])
  ·exact absurd h1 (by simp[qbM,qdG])
  ·exact absurd h1 (by simp[qbM,qdG])
  ·exact⟨_,rfl,.inr (.inr (.inr (.inr (.inr ⟨.inr rfl,rfl,rfl⟩))))⟩
  ·exact absurd h1 (by simp[qbM,qdG])
structure FormAt (A B:Int) (x r:Record) (j:Nat):Prop where
 epoch:r.stamp.epoch=x.stamp.epoch
 turn:0≤r.stamp.turn∧r.stamp.turn≤6
 adds:(j:Int)≤r.stamp.turn+(if r.op=4 then 1 else 0)
 val:r.val=x.val+B*j
 key:r.key=(x.key+A*(r.stamp.turn+(if r.op=3∨r.op=4 then 1 else 0))) % 100
def Form(A B:Int)(xs:List Record)(r:Record):Prop:=∃x∈xs,∃j,FormAt A B x r j
def wtT(op turn:Int):Nat:=
 if op=0 then 7 else if op=1 then 1 else if op=2 then (if turn<6 then 16 else 10) else if op=3 then (if turn<6 then 7 else 4) else if op=4 then (if turn<6 then 4 else 1) else 1
def wt(r:Record):Nat:=wtT r.op r.stamp.turn
def gam(t:Int):Nat:=if t<6 then 21 else 15
theorem qnx{x:Node}{r:Record}(hn:qab x=true)(hr:qaC r=true)(h2:x.kind≠2)(h3:x.kind≠3)(h4:x.kind≠4):qak x r.key r.val=(r.key,r.val,x.kind != 8):=by
 unfold qak;rw[hn,qhE hr];simp only[Bool.and_self,zbb,zo h2,zo h3,zo h4]
theorem qto{B:Int}{j:Nat}(hB:0≤B∧B<4)(hj:j≤7):0≤B*j∧B*j≤21:=by
 have h:B=0∨B=1∨B=2∨B=3:=by omega
 rcases h with rfl | rfl | rfl | rfl<;>omega
theorem qtp{g:Graph}{k a b c:Int}{v:Nat}(hk:k=5∨k=6)(hb:0≤b∧b<4)(ha:0≤a∧a<3)(hv:v≤4)(hn:g.nodes=qbM k a b c v)(hg:qax g=true){x r:Record}{j:Nat}(hx:Input x)(hf:FormAt (1+a) b x r j)
  (hr:qbB g r=false) (cs:List Cell):
  sumS (fun q=>wt q+2) (qav g cs r).2.1+1≤wt r+(if r.op=1∧(qaj k cs (cellOf r)).2=true then gam r.stamp.turn else 0)∧∀q∈(qav g cs r).2.1,∃i,FormAt (1+a) b x q i:=by
 simp only[qbB,zy,zX,zf]at hr;obtain⟨hok,hlt⟩:=hr;have h0:0≤r.op:=by
  simp only[qaC,inR,zj,zi]at hok;omega
 obtain⟨f1,f2,f3,f4,f5⟩:=hf;obtain⟨y,hy,hc⟩:=qtn hv hn h0 (by omega);have nk:=qro hg hy;rw[qEB hg hok hy];rcases hc with⟨ho,hky,hou⟩ | ⟨ho,hky,hou⟩ | ⟨ho,hky,hya,hou⟩ | ⟨ho,hky,hou⟩ | ⟨ho,hky⟩ | ⟨ho,hky,hou⟩
 ·
  rw[qnx nk hok (by omega) (by omega) (by omega),qfu (by omega) (by omega) (by omega),hky];simp[ho]at f3 f5;rcases hou with hou | hou
  ·refine⟨by simp[sends,hou,sumS,wt,wtT,ho],fun q hq=>?_⟩;simp[sends,hou]at hq;subst hq;exact⟨j,f1,f2,by simpa using f3,f4,by simpa using f5⟩
  ·refine⟨by simp[sends,hou,sumS,wt,wtT,ho],fun q hq=>?_⟩;simp[sends,hou]at hq;rcases hq with rfl | rfl
   ·exact⟨j,f1,f2,by simpa using f3,f4,by simpa using f5⟩
   ·exact⟨j,f1,f2,by simpa using f3,f4,by simpa using f5⟩
 ·
  rw[qnx nk hok (by omega) (by omega) (by omega),hky];simp[ho]at f3 f5;have hk8:(k != 8)=true:=by rcases hk with rfl | rfl<;>rfl
  have hk7:k≠7:=by omega
  cases hrc:(qaj k cs (cellOf r)).2 with
  | false=>exact⟨by simp[hk8,sumS,wt,wtT,ho],fun q hq=>by simp[hk8]at hq⟩
  | true=>
   refine⟨?_,fun q hq=>?_⟩
   ·simp only[hk8,zZ,Bool.false_and,zao,zci,hk7,sends,hou,ho,and_self,zbb,reduceCtorEq];simp only[zav,List.map_nil,sumS,zcw,List.sum_nil,wt,wtT,gam];by_cases h6:r.stamp.turn<6
    ·simp[h6,ho]
    ·simp[h6,ho]
   ·simp[hk8,hk7,sends,hou]at hq;rcases hq with rfl | rfl
    ·exact⟨j,f1,f2,by simpa using f3,f4,by simpa using f5⟩
    ·exact⟨j,f1,f2,by simpa using f3,f4,by simpa using f5⟩
 ·
  have hch:qak y r.key r.val=((r.key+y.a).tmod 100,r.val,true):=by
   unfold qak;rw[nk,qhE hok,hky];rfl
  rw[hch,qfu (by omega) (by omega) (by omega),hky];simp[ho]at f3 f5;have hkey:(r.key+y.a).tmod 100=(x.key+(1+a)*(r.stamp.turn+1)) % 100:=by
   rw[Int.mul_add,Int.mul_one,f5,hya,Int.tmod_eq_emod_of_nonneg (by omega)];generalize (1+a)*r.stamp.turn=m;omega
  rw[hkey];have k3:∃i,FormAt (1+a) b x ⟨3,r.stamp,(x.key+(1+a)*(r.stamp.turn+1)) % 100,r.val⟩ i:=⟨j,f1,f2,by simpa using f3,f4,by simp⟩
  have k4:∃i,FormAt (1+a) b x ⟨4,r.stamp,(x.key+(1+a)*(r.stamp.turn+1)) % 100,r.val⟩ i:=⟨j,f1,f2,by dsimp only;rw[zp rfl];omega,f4,by simp⟩
  rcases hou with hou | hou
  ·refine⟨?_,fun q hq=>?_⟩
   ·simp only[sends,hou];by_cases h6:r.stamp.turn<6<;>simp[sumS,wt,wtT,ho,h6]
   ·simp[sends,hou]at hq;subst hq;exact k3
  ·refine⟨?_,fun q hq=>?_⟩
   ·simp only[sends,hou];by_cases h6:r.stamp.turn<6<;>simp[sumS,wt,wtT,ho,h6]
   ·simp[sends,hou]at hq;rcases hq with rfl | rfl
    ·exact k3
    ·exact k4
 ·
  simp[ho]at f3 f5;have hm:=qto hb (j:=j) (by omega);have hm1:=qto hb (j:=j+1) (by omega);obtain⟨_,_,_,_,hv1⟩:=hx;rcases hky with⟨hky,hya⟩ | hky
  ·have hch:qak y r.key r.val=(r.key,r.val+b,true):=by
    unfold qak;rw[nk,qhE hok,hky];simp only[Bool.and_self,zbb,hya];rw[show less (r.val+b) 999=r.val+b by unfold less;rw[zo (by omega)]]
   rw[hch,qfu (by omega) (by omega) (by omega),hky];refine⟨?_,fun q hq=>?_⟩
   ·simp only[sends,hou];by_cases h6:r.stamp.turn<6<;>simp[sumS,wt,wtT,ho,h6]
   ·simp[sends,hou]at hq;subst hq;refine⟨j+1,f1,f2,by dsimp only;rw[zp rfl];omega,?_,by simpa using f5⟩;dsimp only;rw[f4,Int.natCast_add,Int.mul_add];omega
  ·have hch:∃z,qak y r.key r.val=(r.key,r.val,z):=by
    unfold qak;rw[nk,qhE hok,hky];exact⟨_,rfl⟩
   obtain⟨z,hch⟩:=hch;rw[hch,qfu (by omega) (by omega) (by omega),hky];cases z with
   | false=>
    refine⟨?_,fun q hq=>by simp at hq⟩;by_cases h6:r.stamp.turn<6<;>simp[sumS,wt,wtT,ho,h6]
   | true=>
    refine⟨?_,fun q hq=>?_⟩
    ·simp only[sends,hou];by_cases h6:r.stamp.turn<6<;>simp[sumS,wt,wtT,ho,h6]
    ·simp[sends,hou]at hq;subst hq;exact⟨j,f1,f2,by dsimp only;rw[zp rfl];omega,f4,by simpa using f5⟩
 ·
  simp[ho]at f3 f5;rcases hky with⟨hky,hou⟩ | ⟨hky,hou⟩
  ·rw[qnx nk hok (by omega) (by omega) (by omega),qfu (by omega) (by omega) (by omega),hky];unfold qaG;by_cases h6:r.stamp.turn<6
   ·have hst:(qbb r.stamp&&decide (r.stamp.turn<6))=true:=by
     simp only[qaC,zj]at hok;rw[hok.1.2,zap h6];rfl
    rw[zp hst];refine⟨?_,fun q hq=>?_⟩
    ·simp[sends,hou,sumS,wt,wtT,ho,h6]
    ·simp[sends,hou]at hq;subst hq;exact⟨j,f1,⟨by dsimp only;omega,by dsimp only;omega⟩,by simpa using f3,f4,by simpa using f5⟩
   ·rw[zo (by simp[h6])];refine⟨?_,fun q hq=>by simp[h6]at hq⟩;simp[sumS,wt,wtT,ho,h6]
  ·have hz:∀s k' v',sends y s k' v'=[]:=fun s k' v'=>by simp[sends,hou]
   simp only[hz,ite_self];refine⟨?_,fun q hq=>by cases hq⟩;by_cases h6:r.stamp.turn<6<;>simp[sumS,wt,wtT,ho,h6]
 ·
  have hz:∀s k' v',sends y s k' v'=[]:=fun s k' v'=>by simp[sends,hou]
  simp only[hz,ite_self];refine⟨?_,fun q hq=>by cases hq⟩;rcases ho with ho | ho<;>simp[sumS,wt,wtT,ho]
end Go.Proofs.YtdkobdhckkjmeaaGreat
namespace Go.Proofs.YtdkobdhckkjmeaaGreat
open Go.Sx Go.RowKit Go.Proofs.Tryz
theorem qks{α:Type}{f g:α→Nat}:∀{xs:List α},(∀u∈xs,f u≤g u)→sumS f xs≤sumS g xs
 | [],_=>zO _
 | x::xs,h=>by
  have h1:=h x (zm ..);have h2:=qks (f:=f) (g:=g) (xs:=xs) fun u hu=>h u (zg _ hu)
  simp only[sumS,zav,zcw]at h2 ⊢;omega
theorem qtq{α:Type}{f g:α→Nat}{m:Nat}{u:α}:∀{xs:List α},(∀u∈xs,f u≤g u)→u∈xs→f u+m≤g u→sumS f xs+m≤sumS g xs
 | [],_,h,_=>by cases h
 | x::xs,h,hu,hm=>by
  have h1:=h x (zm ..);have h2:∀u∈xs,f u≤g u:=fun u hu=>h u (zg _ hu)
  simp only[sumS,zav,zcw];rcases zL.1 hu with rfl | hu
  ·have:=qks h2;unfold sumS at this;omega
  ·have:=qtq h2 hu hm;unfold sumS at this;omega
theorem qim{α:Type}{f:α→Nat}{xs ys:List α}:sumS f (xs++ys)=sumS f xs+sumS f ys:=by
 simp[sumS]
theorem qb2{α:Type}{f:α→Nat}{x:α}{xs:List α}:sumS f (x::xs)=f x+sumS f xs:=by simp[sumS]
theorem qfR{α:Type}{f:α→Nat}:sumS f []=0:=rfl
def cellU(A B:Int)(x:Record)(t j:Nat):Cell:=⟨1,x.stamp.epoch,(x.key+A*t) % 100,x.val+B*j⟩
def univ(A B:Int)(xs:List Record):List (Nat×Cell):=xs.flatMap fun x=>(List.range 7).flatMap fun t=>(List.range (t+1)).map fun j=>(t,cellU A B x t j)
def qdH(k n:Int)(css:List (List Cell))(u:Cell):Bool:=match css[(qay u.key n).toNat]? with | some cs=>(qaj k cs u).2 | none=>false
def gateW(k n:Int)(css:List (List Cell))(u:Nat×Cell):Nat:=if qdH k n css u.2=true then gam u.1 else 0
def leftU(k n:Int)(css:List (List Cell))(U:List (Nat×Cell)):Nat:=sumS (gateW k n css) U
theorem qtr(A B:Int):∀xs:List Record,sumS (fun u=>gam u.1) (univ A B xs)=xs.length*546
 | []=>rfl
 | x::xs=>by
  have ih:=qtr A B xs;unfold univ at ih ⊢;rw[List.flatMap_cons,qim,ih,zq];have:sumS (fun u:Nat×Cell=>gam u.1) ((List.range 7).flatMap fun t=>(List.range (t+1)).map fun j=>(t,cellU A B x t j))=546:=by
   simp[sumS,List.range_succ,gam]
  omega
theorem qMT(k n A B:Int)(css:List (List Cell))(xs:List Record):leftU k n css (univ A B xs)≤xs.length*546:=by
 rw[←qtr A B xs];refine qks fun u _=>?_
 unfold gateW;split
 ·exact zO _
 ·exact Nat.zero_le _
theorem qMU{A B:Int}{xs:List Record}{x r:Record}{j:Nat}(hx:x∈xs)(h:FormAt A B x r j)(ho:r.op=1):(r.stamp.turn.toNat,cellOf r)∈univ A B xs:=by
 obtain⟨f1,f2,f3,f4,f5⟩:=h;simp[ho]at f3 f5;unfold univ;refine zar.2 ⟨x,hx,zar.2 ⟨r.stamp.turn.toNat,List.mem_range.2 (by omega),zbm.2 ⟨j,List.mem_range.2 (by omega),?_⟩⟩⟩;unfold cellU cellOf;rw[Int.toNat_of_nonneg f2.1,←f5,←f4,f1,ho]
theorem qts{k n:Int}{css:List (List Cell)}{i:Nat}{cs cs':List Cell}(hi:css[i]?=some cs){u:Cell}(h:(qaj k cs' u).2=true→(qaj k cs u).2=true):qdH k n (css.set i cs') u=true→qdH k n css u=true:=by
 unfold qdH;rw[zad];by_cases hio:i=(qay u.key n).toNat
 ·rw[zp hio,zp (lt_of hi),←hio,hi];exact h
 ·rw[zo hio];exact id
theorem qMV{k n:Int}{css:List (List Cell)}{i:Nat}{cs cs':List Cell}(hi:css[i]?=some cs){U:List (Nat×Cell)}(h:∀u∈U,(qaj k cs' u.2).2=true→(qaj k cs u.2).2=true):leftU k n (css.set i cs') U≤leftU k n css U:=by
 refine qks fun u hu=>?_
 unfold gateW;by_cases hg:qdH k n (css.set i cs') u.2=true
 ·rw[zp hg,zp (qts hi (h u hu) hg)];exact zO _
 ·rw[zo hg];exact Nat.zero_le _
theorem qMW{k n:Int}{css:List (List Cell)}{i:Nat}{cs cs':List Cell}(hi:css[i]?=some cs){U:List (Nat×Cell)}(h:∀u∈U,(qaj k cs' u.2).2=true→(qaj k cs u.2).2=true)
  {u:Nat×Cell} (hu:u∈U) (ho:(qay u.2.key n).toNat=i) (h1:(qaj k cs u.2).2=true) (h2:(qaj k cs' u.2).2=false):leftU k n (css.set i cs') U+gam u.1≤leftU k n css U:=by
 refine qtq (fun u hu=>?_) hu ?_
 ·unfold gateW;by_cases hg:qdH k n (css.set i cs') u.2=true
  ·rw[zp hg,zp (qts hi (h u hu) hg)];exact zO _
  ·rw[zo hg];exact Nat.zero_le _
 ·have g1:qdH k n css u.2=true:=by unfold qdH;rw[ho,hi];exact h1
  have g2:qdH k n (css.set i cs') u.2=false:=by unfold qdH;rw[ho,qcM hi];exact h2
  unfold gateW;rw[zp g1,zo (by rw[g2];decide)];omega
def phW(x:Worker):Nat:=sumS wt x.queue+sumS (fun r=>wt r+2) x.staged+sumS (fun r=>wt r+1) x.inputs
def phL(l:Link):Nat:=sumS (fun r=>wt r+1) l.queue+l.back.toNat
structure Par where
 k:Int
 a:Int
 b:Int
 c:Int
 v:Nat
 xs:List Record
def Par.U(P:Par):List (Nat×Cell):=univ (1+P.a) P.b P.xs
def phi(P:Par)(c:Cluster):Nat:=sumS phW c.workers+sumS phL c.links+leftU P.k c.graph.workers (c.workers.map Worker.cells) P.U
structure Par.Of (P:Par) (c:Cluster):Prop where
 k:P.k=5∨P.k=6
 a:0≤P.a∧P.a<3
 b:0≤P.b∧P.b<4
 v:P.v≤4
 nodes:c.graph.nodes=qbM P.k P.a P.b P.c P.v
 inputs:∀r∈P.xs,Input r
 recs:Recs (Form (1+P.a) P.b P.xs) (fun r=>r∈P.xs) c
theorem Par.Of.step{P:Par}{c d:Cluster}{p:Pick}(h:P.Of c)(hok:qai c=true)(st:Step c p d)(hg:d.graph=c.graph):P.Of d:=by
 refine⟨h.k,h.a,h.b,h.v,by rw[hg];exact h.nodes,h.inputs,h.recs.step (fun r hr=>?_) (fun r cs hf hb q hq=>?_) hok st⟩
 ·obtain⟨i1,i2,i3,i4,i5⟩:=h.inputs r hr;refine⟨r,hr,0,rfl,by omega,by rw[i2,i1];decide,by omega,?_⟩;rw[i2,i1];simp only[show ¬((0:Int)=3∨(0:Int)=4) by decide,zci,Int.add_zero,Int.mul_zero];omega
 ·obtain⟨x,hx,j,hf⟩:=hf;obtain⟨i,hi⟩:=(qtp h.k h.b h.a h.v h.nodes (qaH.1 hok).1 (h.inputs x hx) hf hb cs).2 q hq;exact⟨x,hx,i,hi⟩
theorem qfS{P:Par}{c:Cluster}{i:Int}{x y:Worker}(hx:wAt c i=some x)(hc:y.cells=x.cells):phi P (setW c i y)+phW x=phi P c+phW y:=by
 obtain⟨_,_,h2⟩:=qaD hx;have h:=qkc (f:=phW) y h2;have e:(c.workers.set i.toNat y).map Worker.cells=c.workers.map Worker.cells:=by
  rw[zau,hc];exact qh3 (by rw[zr,h2];rfl)
 unfold phi;simp only[setW,e];omega
theorem qny{P:Par}{c:Cluster}{i:Int}{l m:Link}(hl:lAt c i=some l):phi P (setL c i m)+phL l=phi P c+phL m:=by
 have h:=qkc (f:=phL) m (qbl hl).2.2;unfold phi;simp only[setL];omega
theorem qMX{P:Par}{c:Cluster}{e:Int}{t:Token}{x:Worker}(hx:wAt c t.place=some x):phi P (tokenAt c e t x).1=phi P c:=by
 have hw:∀u:Token,phi P (setW (setT c e u) t.place (qaB x e))=phi P c:=fun u=>by
  have:=qfS (P:=P) (c:=setT c e u) (y:=qaB x e) hx rfl;have e1:phi P (setT c e u)=phi P c:=rfl;have e2:phW (qaB x e)=phW x:=rfl;omega
 rcases qcX c e t x with⟨_,k⟩ | ⟨_,_,⟨_,k⟩ | ⟨_,_,k⟩ | ⟨_,h0,_,k⟩ | ⟨_,_,_,k⟩⟩
 ·rw[k]
 ·rw[k];exact hw _
 ·rw[k];exact hw _
 ·rw[k];have hz:t.place=0:=by have:=(qaD hx).1;omega
  rw[hz]at hx;have:=qfS (P:=P) (c:=setT c e ⟨false,t.place,t.sum,t.black,t.capped⟩) (y:=told x e (t.capped||x.caps.getD e.toNat false)) hx rfl;have e1:phi P (setT c e ⟨false,t.place,t.sum,t.black,t.capped⟩)=phi P c:=rfl;have e2:phW (told x e (t.capped||x.caps.getD e.toNat false))=phW x:=rfl;change phi P (setW (setT c e ⟨false,t.place,t.sum,t.black,t.capped⟩) 0 (told x e (t.capped||x.caps.getD e.toNat false)))=_;omega
 ·rw[k];rfl
theorem qtt{P:Par}{c d:Cluster}{p:Pick}(h:P.Of c)(ow:Owns c)(hok:qai c=true)(st:Step c p d):phi P d+(if p.kind≤5∧p.kind≠4 then 1 else 0)≤phi P c:=by
 have hg:=(qaH.1 hok).1;cases st with
 | work x r q hk hx hs hq=>
  rw[zp (show p.kind≤5∧p.kind≠4 by omega)];obtain⟨x0,x1,x2⟩:=qaD hx;have wk:=qbu hok hx;have hb:=(qbd.1 wk).1;rw[hq,qdc]at hb;obtain⟨xi,hxi,j,hf⟩:=(h.recs.at hx).1 r (.inl (by rw[hq];exact zm ..));obtain⟨hcost,_⟩:=qtp h.k h.b h.a h.v h.nodes hg (h.inputs xi hxi) hf hb.1 x.cells;have hr:=hb.1;simp only[qbB,zy,zX,zf]at hr;have hr0:0≤r.op:=by
   have:=hr.1;simp only[qaC,inR,zj,zi]at this;omega
  obtain⟨y,hy,hyk⟩:=qtn h.v h.nodes hr0 (by omega);have hcell:=qEA (cs:=x.cells) hg hr.1 hy;have hcs:(c.workers.map Worker.cells)[p.a.toNat]?=some x.cells:=by rw[zr,x2];rfl
  have hown:(qay (cellOf r).key c.graph.workers).toNat=p.a.toNat:=by
   have:=(ow.at hx).1 r (by rw[hq];exact zm ..);change (qay r.key c.graph.workers).toNat=_;omega
  have mono:∀u∈P.U,(qaj P.k (qav c.graph x.cells r).1 u.2).2=true→(qaj P.k x.cells u.2).2=true:=by
   intro u hu h1;have hu1:u.2.op=1:=by
    unfold Par.U univ at hu;obtain⟨x',_,hu⟩:=zar.1 hu;obtain⟨t,_,hu⟩:=zar.1 hu;obtain⟨j',_,rfl⟩:=zbm.1 hu;rfl
   have hk3:P.k=5∨P.k=6∨P.k=8:=by have:=h.k;omega
   cases h2:(qaj P.k x.cells u.2).2 with
   | true=>rfl
   | false=>
    have hbk:=qEx (k:=P.k) (k':=y.kind) hk3 (y:=cellOf r) (u:=u.2) (fun e=>by
     rw[hu1]at e;change r.op=1 at e;rcases hyk with⟨ho,_⟩ | ⟨_,hyk,_⟩ | ⟨ho,_⟩ | ⟨ho,_⟩ | ⟨ho,_⟩ | ⟨ho,_⟩
     ·omega
     ·exact hyk
     ·omega
     ·omega
     ·omega
     ·omega) ((qjI hk3 _ _).1 h2)
    rw[←hcell]at hbk;rw[(qjI hk3 _ _).2 hbk]at h1;cases h1
  have hw:=qkc (f:=phW) (⟨q,(qav c.graph x.cells r).2.1,x.inputs,(qav c.graph x.cells r).1,x.sums,x.black,(if capped c.graph r then x.caps.set r.stamp.epoch.toNat true else x.caps),x.dones⟩:Worker) x2;have hpx:phW x=wt r+sumS wt q+sumS (fun r=>wt r+1) x.inputs:=by
   unfold phW;rw[hq,hs,qb2,qfR];omega
  have hpy:phW ⟨q,(qav c.graph x.cells r).2.1,x.inputs,(qav c.graph x.cells r).1,x.sums,x.black,(if capped c.graph r then x.caps.set r.stamp.epoch.toNat true else x.caps),x.dones⟩=sumS wt q+sumS (fun r=>wt r+2) (qav c.graph x.cells r).2.1+sumS (fun r=>wt r+1) x.inputs:=rfl;unfold phi;simp only[setW,zau];by_cases hp:r.op=1∧(qaj P.k x.cells (cellOf r)).2=true
  ·rw[zp hp]at hcost;have hkk:y.kind=P.k:=by
    rcases hyk with⟨ho,_⟩ | ⟨_,hyk,_⟩ | ⟨ho,_⟩ | ⟨ho,_⟩ | ⟨ho,_⟩ | ⟨ho,_⟩
    ·omega
    ·exact hyk
    ·omega
    ·omega
    ·omega
    ·omega
   have hl:=qMW (n:=c.graph.workers) hcs mono (qMU hxi hf hp.1) hown hp.2 (by
    rw[hcell,hkk];have hk3:P.k=5∨P.k=6∨P.k=8:=by have:=h.k;omega
    exact (qjI hk3 _ _).2 (qEy hk3 hp.2))
   have ht:gam (r.stamp.turn.toNat:Nat)=gam r.stamp.turn:=by rw[Int.toNat_of_nonneg hf.turn.1]
   rw[ht]at hl;omega
  ·rw[zo hp]at hcost;have hl:=qMV (n:=c.graph.workers) hcs mono;omega
 | input x r t hk hx hs hq hi=>
  rw[zp (show p.kind≤5∧p.kind≠4 by omega)];have:=qfS (P:=P) (y:=⟨[r],[],t,x.cells,x.sums,x.black,x.caps,x.dones⟩) hx rfl;simp only[phW,hs,hq,hi,qb2,qfR]at this;omega
 | keep x r t hk hx hs ho=>
  rw[zp (show p.kind≤5∧p.kind≠4 by omega)];have:=qfS (P:=P) (y:=kept (qbf x t) r) hx rfl;have e1:phW x=sumS wt x.queue+(wt r+2+sumS (fun r=>wt r+2) t)+sumS (fun r=>wt r+1) x.inputs:=by simp only[phW,hs,qb2]
  have e2:phW (kept (qbf x t) r)=sumS wt x.queue+(wt r+0)+sumS (fun r=>wt r+2) t+sumS (fun r=>wt r+1) x.inputs:=by simp only[phW,kept,qbf,qim,qb2,qfR]
  omega
 | send x r t l hk hx hs ho hl hsend=>
  rw[zp (show p.kind≤5∧p.kind≠4 by omega)];obtain⟨_,_,_,e1⟩:=qh1 hsend;have h1:=qny (P:=P) (m:=(qaz l r).1) hl;have h2:=qfS (P:=P) (c:=setL c (qaw c.graph p.a (qay r.key c.graph.workers)) (qaz l r).1) (y:=qbZ (qbf x t) r.stamp.epoch) hx rfl;have k1:phW x=sumS wt x.queue+(wt r+2+sumS (fun r=>wt r+2) t)+sumS (fun r=>wt r+1) x.inputs:=by simp only[phW,hs,qb2]
  have k2:phW (qbZ (qbf x t) r.stamp.epoch)=sumS wt x.queue+sumS (fun r=>wt r+2) t+sumS (fun r=>wt r+1) x.inputs:=rfl;have k3:phL (qaz l r).1=phL l+(wt r+1):=by
   rw[e1];simp only[phL,qim,qb2,qfR];omega
  omega
 | take l x hk hab hl hx ht=>
  rw[zo (show ¬(p.kind≤5∧p.kind≠4) by omega)];obtain⟨hlk,r,q,hq,e2,e1⟩:=qfK ht;have hb:=(qcn.1 hlk).2.2.1;simp only[inR,zi]at hb;have h1:=qny (P:=P) (m:=(qaq l).1) hl;have h2:=qfS (P:=P) (c:=setL c (qaw c.graph p.a p.b) (qaq l).1) (y:=received x (qaq l).2.1) hx rfl;have k2:phW (received x (qaq l).2.1)=phW x+wt r:=by
   rw[e2];simp only[phW,received,qim,qb2,qfR];omega
  have k3:phL (qaq l).1+wt r=phL l:=by
   rw[e1];simp only[phL,hq,qb2];omega
  omega
 | credit l hk hab hl hc=>
  rw[zp (show p.kind≤5∧p.kind≠4 by omega)];rcases qfL l with⟨k,_⟩ | ⟨_,hlk,hb0,e1⟩
  ·rw[hc]at k;cases k
  have hb:=(qcn.1 hlk).2.2.1;simp only[inR,zi]at hb;have h1:=qny (P:=P) (m:=(qaQ l).1) hl;rw[e1]at h1 ⊢;simp only[phL]at h1;omega
 | token t x x0 hk hin h0 hd ht hx hdid=>
  rw[zo (show ¬(p.kind≤5∧p.kind≠4) by omega),qMX hx];exact zO _
 | hear k n x hk hn hd hx=>
  rw[zo (show ¬(p.kind≤5∧p.kind≠4) by omega)];have:phi P (setW c p.a (hears x n))+phW x=phi P c+phW (hears x n):=qfS hx (by unfold hears;split<;>rfl);have e:phW (hears x n)=phW x:=by unfold hears;split<;>rfl
  change phi P (setW c p.a (hears x n))+0≤_;omega
theorem qnz{α:Type}{f g:α→Nat}:∀xs:List α,sumS (fun x=>f x+g x) xs=sumS f xs+sumS g xs
 | []=>rfl
 | x::xs=>by rw[qb2,qb2,qb2,qnz xs];omega
theorem qgW{α:Type}:∀xs:List α,sumS (fun _=>0) xs=0
 | []=>rfl
 | x::xs=>by rw[qb2,qgW xs]
theorem qfT{α:Type}{f g:α→Nat}:∀{xs:List α},(∀u∈xs,f u=g u)→sumS f xs=sumS g xs
 | [],_=>rfl
 | x::xs,h=>by rw[qb2,qb2,h x (zm ..),qfT fun u hu=>h u (zg _ hu)]
theorem qnA(o:Int)(m:Nat):∀n:Nat,sumS (fun w:Nat=>if o=(w:Int) then m else 0) (List.range n)=if 0≤o∧o<n then m else 0
 | 0=>by
  rw[zcq,qfR,zo (by omega)]
 | n+1=>by
  rw[List.range_succ,qim,qnA o m n,qb2,qfR];by_cases h:o=(n:Int)
  ·rw[zo (by omega),zp h,zp (by omega)];omega
  ·rw[zo h];by_cases h2:0≤o∧o<n
   ·rw[zp h2,zp (by omega)];rfl
   ·rw[zo h2,zo (by omega)]
def inAt(g:Graph)(w e:Int)(r:Record):Bool:=r.stamp.epoch==e&&qay r.key g.workers==w
theorem qnB(g:Graph)(xs:List Record)(w:Int):(own g xs w).length=sumS (fun e:Nat=>xs.countP (inAt g w e)) (List.range 4):=by
 unfold own ownTo;rw[List.length_flatMap];unfold sumS
 congr 1
 refine zW fun e _=>?_
 rw[List.countP_eq_length_filter];rfl
theorem qMY(g:Graph)(x:Record)(xs:List Record)(w:Int):(own g (x::xs) w).length=(own g xs w).length+(if qay x.key g.workers=w then (if 0≤x.stamp.epoch∧x.stamp.epoch<4 then 1 else 0) else 0):=by
 rw[qnB,qnB];have h:∀e:Nat,(x::xs).countP (inAt g w e)=xs.countP (inAt g w e)+(if qay x.key g.workers=w then (if x.stamp.epoch=(e:Int) then 1 else 0) else 0):=fun e=>by
  rw[List.countP_cons]
  congr 1
  unfold inAt;by_cases h1:qay x.key g.workers=w
  ·by_cases h2:x.stamp.epoch=(e:Int)
   ·simp[h1,h2]
   ·simp[h1,h2]
  ·simp[h1]
 rw[qfT (g:=fun e:Nat=>xs.countP (inAt g w e)+(if qay x.key g.workers=w then (if x.stamp.epoch=(e:Int) then 1 else 0) else 0)) fun e _=>h e,qnz]
 congr 1
 by_cases h1:qay x.key g.workers=w
 ·simp only[zp h1];exact qnA x.stamp.epoch 1 4
 ·simp only[zo h1];exact qgW _
theorem qtu{g:Graph}(hn:1≤g.workers):∀xs:List Record,(∀r∈xs,0≤r.stamp.epoch∧r.stamp.epoch<4)→sumS (fun w:Nat=>(own g xs w).length) (List.range g.workers.toNat)=xs.length
 | [],_=>by
  rw[qfT (g:=fun _=>0) fun w _=>by rw[qnB];exact qgW _,qgW];rfl
 | x::xs,h=>by
  have hx:=h x (zm ..);have ho:=qhV x.key hn;simp only[inR,zi]at ho;rw[qfT (g:=fun w:Nat=>(own g xs w).length+(if qay x.key g.workers=(w:Int) then 1 else 0)) fun w _=>by rw[qMY,zp hx],qnz,qtu hn xs fun r hr=>h r (zg _ hr),qnA,zp (by omega)];rfl
theorem qtv{P:Par}{g:Graph}(h:newOk g P.xs=true)(hi:∀r∈P.xs,Input r):phi P (qaI g P.xs)≤P.xs.length*554:=by
 have hn:=qa8 (qii.1 h).1;have h1:sumS phW (qaI g P.xs).workers=P.xs.length*8:=by
  have e:sumS phW (qaI g P.xs).workers=sumS (fun w:Nat=>8*(own g P.xs w).length) (List.range g.workers.toNat):=by
   unfold qaI qcq sumS;rw[List.map_map]
   congr 1
   refine zW fun w _=>?_
   change 0+0+sumS (fun r=>wt r+1) (own g P.xs w)=_;have:sumS (fun r=>wt r+1) (own g P.xs w)=sumS (fun _=>8) (own g P.xs w):=qfT fun r hr=>by
    have:=(hi r (qkn hr).1).1;unfold wt wtT;rw[zp this]
   rw[this];simp only[sumS,List.map_const',List.sum_replicate_nat];omega
  have e2:∀ws:List Nat,sumS (fun w:Nat=>8*(own g P.xs w).length) ws=8*sumS (fun w:Nat=>(own g P.xs w).length) ws:=fun ws=>by
   induction ws with
   | nil=>rfl
   | cons w ws ih=>rw[qb2,qb2,ih];omega
  rw[e,e2,qtu hn.1 P.xs fun r hr=>by have:=(hi r hr).2.2.1;omega];omega
 have h2:sumS phL (qaI g P.xs).links=0:=by
  have:sumS phL (qaI g P.xs).links=sumS (fun _=>0) (qaI g P.xs).links:=qfT fun l hl=>by
   rw[List.eq_of_mem_replicate hl];rfl
  rw[this,qgW]
 have h3:=qMT P.k (qaI g P.xs).graph.workers (1+P.a) P.b ((qaI g P.xs).workers.map Worker.cells) P.xs;unfold phi Par.U;omega
end Go.Proofs.YtdkobdhckkjmeaaGreat
