/- The drawers' cursor: whatever is drawn, there is a cursor behind it and a number in range. -/
import Derived.Test.YtdkobdhckkjmeaaGreatB0
import Derived.Test.YtdkobdhckkjmeaaGreatT5
import Derived.Test.YtdkobdhckkjmeaaGreatR35
import Derived.Test.YtdkobdhckkjmeaaGreatGD
import Derived.Test.YtdkobdhckkjmeaaGreatC0
import Derived.Test.YtdkobdhckkjmeaaGreatP16
import Derived.Test.YtdkobdhckkjmeaaGreatR33
import Derived.Test.YtdkobdhckkjmeaaGreatP59
import Derived.Test.YtdkobdhckkjmeaaGreatP43
import Derived.Test.YtdkobdhckkjmeaaGreatP42
set_option linter.unusedVariables false
set_option linter.unusedSimpArgs false
namespace Go.Proofs.YtdkobdhckkjmeaaGreat
open Go.Sx Go.RowKit Go.Proofs.Tryz
def eU(n:Int):List D:=[.v (.int .u8 n)]
structure Cur where
 i:Int
 h:Int
def Cur.e(b:List Int)(c:Cur):List D:=[.sl 1 (b.map eU),I c.i,I c.h]
def Bytes(b:List Int):Prop:=b.length≤8388608∧∀x∈b,0≤x∧x≤255
def Cur.ok(b:List Int)(c:Cur):Prop:=Bytes b∧0≤c.i∧c.i≤b.length
theorem u8_of{P:Program}{t:TypeId}{ds:List D}(hu:P.underlying t=some (.int .u8))(h:ShD P t ds):∃n,ds=eU n∧0≤n∧n≤255:=by
 have h2:∃n,ds=[.v (.int .u8 n)]∧(Lit.int .u8 n).wf=true:=by cases h<;>simp_all
 obtain⟨n,e,hw⟩:=h2;refine⟨n,e,?_⟩;simp[Lit.wf]at hw;have h3:IntKind.u8.min=0:=rfl;rw[h3]at hw;exact hw
theorem qM1:prog.cellsOf 5=1:=by kernel_rfl
theorem qM2{ds:List D}(h:ShD prog 22 ds):∃xs:List Int,ds=[.sl 1 (xs.map eU)]∧(xs.length:Int)≤9223372036854775807∧∀a∈xs,(fun n=>0≤n∧n≤255) a:=
 qvN eU (fun n=>0≤n∧n≤255) Tryz.underlying22 qM1 (fun ds h=>u8_of Tryz.underlying5 h) h
theorem qs5{ad:AD}(h:ShA prog 22 ad):∃xs:List Int,ad=.one (.sl 1 (xs.map eU))∧(xs.length:Int)≤9223372036854775807∧∀a∈xs,(fun n=>0≤n∧n≤255) a:=by
 cases ad with
 | agg ds=>have:=h.2;simp[aggT,Tryz.underlying22]at this
 | one d=>
  obtain⟨x,e,hx⟩:=qM2 h.1;obtain rfl:=(zG e).1;exact⟨x,rfl,hx⟩
theorem qs6{P:Program}(a:Int)(n:Nat):∃m:Int,∀t x y,qbJ P .shr t x y (.int .i64 a) (.int .u64 (n:Int)) (.int .i64 m):=⟨_,fun _ _ _=>qMr _ _ _ _⟩
theorem qM3{P:Program}(a b:Int):∃m:Int,∀t x y,qbJ P .xor t x y (.int .i64 a) (.int .i64 b) (.int .i64 m):=⟨_,fun _ _ _=>qMs _ _ _⟩
theorem qnp{P:Program}(a:Int)(k:Nat)(hk:k<2 ^ 62):∃m:Int,(0≤m∧m≤k)∧∀t x y,qbJ P .and t x y (.int .i64 a) (.int .i64 (k:Int)) (.int .i64 m):=⟨_,qMu a k hk,fun _ _ _=>qMt _ _ _⟩
theorem qs7(b:List Int)(hb:Bytes b):∀(n i:Nat) (h:Int),i+n=b.length→0≤h∧h≤1073741823→∃h',qam prog (qaa f117 0) (qgR (b.map eU) i h) (.exit 0) (qkj (b.map eU) h')
 | 0,i,h,hi,hh=>⟨h,.last (qaf 0) (qMx ⟨by rw[zf,zb];omega,trivial⟩)⟩
 | n+1,i,h,hi,hh=>by
  have hl:=hb.1;obtain⟨x,hx⟩:=qal (xs:=b) (i:=i) (by omega);have hb:=hb.2 x (qag hx);by_cases h4:(i:Int)<4000
  ·obtain⟨m,hm,r⟩:=qnp (P:=prog) (h*131+x+7) 1073741823 (by decide);obtain⟨h',l⟩:=qs7 b ‹Bytes b› n (i+1) m (by omega) hm;exact⟨h',.more (qMv ⟨lt1 (by omega),zap h4,⟨by omega,by omega⟩,lt0,lt2 (by omega),qac eU hx,⟨by omega,by omega⟩,⟨by omega,by omega⟩,⟨by omega,by omega⟩,r _ _ _,⟨by omega,by omega⟩,trivial⟩) l⟩
  ·exact⟨h,.last (qaf 0) (qMw ⟨lt1 (by omega),zt h4,trivial⟩)⟩
theorem qs8(b:List Int)(hb:Bytes b):∃c:Cur,c.ok b∧RetR prog 117 [.ro (.one (.sl 1 (b.map eU)))] (.newp [some 0,none,none] (c.e b)):=by
 have hl:=hb.1;obtain⟨h',l⟩:=qs7 b hb b.length 0 (94701+(↑(b.map eU).length:Int)) (by omega) ⟨by omega,by simp;omega⟩;exact⟨⟨0,h'⟩,⟨hb,by dsimp only;omega,by dsimp only;omega⟩,qMy ⟨⟨by omega,by simp;omega⟩,l,trivial⟩⟩
theorem qkk(b:List Int)(c:Cur)(hc:c.ok b):∃(d:Cur) (n:Int),d.ok b∧(0≤n∧n≤255)∧RetR prog 253 [.cur (c.e b) (d.e b)] (.vals [.one (I n)]):=by
 obtain⟨⟨h1,h2⟩,h3,h4⟩:=hc;obtain⟨n3,r3⟩:=qs6 (P:=prog) (IntKind.i64.wrap (IntKind.i64.wrap (c.h*6364136223846793005)+1442695040888963407)) 33;obtain⟨n4,r4⟩:=qs6 (P:=prog) (IntKind.i64.wrap (IntKind.i64.wrap (c.h*6364136223846793005)+1442695040888963407)) 45;obtain⟨n5,r5⟩:=qM3 (P:=prog) n3 n4;obtain⟨n6,m6,r6⟩:=qnp (P:=prog) n5 255 (by decide);by_cases hi:c.i<b.length
 ·obtain⟨x,hx⟩:=qal (xs:=b) (i:=c.i.toNat) (by omega);have hb:=h2 x (qag hx);obtain⟨n8,m8,r8⟩:=qnp (P:=prog) (IntKind.i64.wrap (n6+IntKind.i64.wrap x)) 255 (by decide);exact⟨⟨c.i+1,IntKind.i64.wrap (IntKind.i64.wrap (c.h*6364136223846793005)+1442695040888963407)⟩,n8,⟨⟨h1,h2⟩,by dsimp only;omega,by dsimp only;omega⟩,m8,qMz ⟨r3 _ _ _,r4 _ _ _,r5 _ _ _,r6 _ _ _,by rw[zi,zb];exact hi,h3,by rw[zb];exact hi,by rw[zr,hx];rfl,r8 _ _ _,⟨by omega,by omega⟩,trivial⟩⟩
 ·exact⟨⟨c.i,IntKind.i64.wrap (IntKind.i64.wrap (c.h*6364136223846793005)+1442695040888963407)⟩,n6,⟨⟨h1,h2⟩,h3,h4⟩,m6,qMA ⟨r3 _ _ _,r4 _ _ _,r5 _ _ _,r6 _ _ _,by rw[zf,zb];exact hi,trivial⟩⟩
theorem qb0(b:List Int)(c:Cur)(k:Int)(hc:c.ok b)(hk:1≤k∧k≤1000000):∃(d:Cur) (n:Int),d.ok b∧(0≤n∧n<k)∧RetR prog 139 [.cur (c.e b) (d.e b),.ro (.one (I k))] (.vals [.one (I n)]):=by
 have md:∀m:Int,0≤m→0≤m.tmod k∧m.tmod k<k:=fun m hm=>⟨Int.tmod_nonneg _ hm,Int.tmod_lt_of_pos m (by omega)⟩
 obtain⟨d1,n1,o1,b1,r1⟩:=qkk b c hc;by_cases h:k≤256
 ·exact⟨d1,_,o1,md n1 b1.1,qMB ⟨zt (by omega),zap h,r1,by omega,trivial⟩⟩
 ·obtain⟨d2,n2,o2,b2,r2⟩:=qkk b d1 o1;obtain⟨d3,n3,o3,b3,r3⟩:=qkk b d2 o2;obtain⟨d4,n4,o4,b4,r4⟩:=qkk b d3 o3;exact⟨d4,_,o4,md _ (by omega),qMC ⟨zt (by omega),zt h,r1,r2,r3,r4,⟨by omega,by omega⟩,⟨by omega,by omega⟩,⟨by omega,by omega⟩,⟨by omega,by omega⟩,⟨by omega,by omega⟩,⟨by omega,by omega⟩,by omega,trivial⟩⟩
theorem qs9(b:List Int)(c:Cur)(k:Int)(hc:c.ok b)(hk:1≤k∧k≤1000000):∃(d:Cur) (x:Bool),d.ok b∧RetR prog 137 [.cur (c.e b) (d.e b),.ro (.one (I k))] (.vals [.one (B x)]):=by
 obtain⟨d,n,o,_,r⟩:=qb0 b c k hc hk;exact⟨d,_,o,qMD ⟨r,trivial⟩⟩
theorem qM4(b:List Int)(c:Cur)(xs:List Int)(hc:c.ok b)(hk:1≤xs.length∧xs.length≤1000):∃(d:Cur) (n:Int),d.ok b∧n∈xs∧RetR prog 141 [.cur (c.e b) (d.e b),.ro (.one (.sl 1 (xs.map eI)))] (.vals [.one (I n)]):=by
 obtain⟨d,n,o,hb,r⟩:=qb0 b c (xs.length:Int) hc (by omega);obtain⟨x,hx⟩:=qal (xs:=xs) (i:=n.toNat) (by omega);refine⟨d,x,o,qag hx,qME ⟨?_,hb.1,by rw[zb];exact hb.2,by rw[zr,hx];rfl,trivial⟩⟩;rw[zb];exact r
end Go.Proofs.YtdkobdhckkjmeaaGreat
namespace Go.Proofs.YtdkobdhckkjmeaaGreat
open Go.Sx Go.RowKit Go.Proofs.Tryz
def Input(r:Record):Prop:=r.op=0∧r.stamp.turn=0∧(0≤r.stamp.epoch∧r.stamp.epoch≤2)∧(0≤r.key∧r.key<12)∧(0≤r.val∧r.val<40)
theorem qta(b:List Int):∀(n i:Nat) (e:Int) (xs:List Record) (c:Cur),i+n=5→c.ok b→(0≤e∧e≤2)→xs.length≤i→(∀r∈xs,Input r)→
  ∃(ys:List Record) (d:Cur),d.ok b∧ys.length≤5∧(∀r∈ys,Input r)∧qam prog (qaa f119 0) (qil (b.map eU) i e (xs.map Record.e) c.i c.h) (.exit 0) (qnl (b.map eU) (ys.map Record.e) d.i d.h)
 | n,i,e,xs,c,hin,hc,he,hl,hx=>by
  obtain⟨d1,m,o1,hb,r1⟩:=qb0 b c 6 hc (by omega);by_cases h:(i:Int)<m
  ·match n with
   | 0=>omega
   | n+1=>
    obtain⟨d2,a,o2,ha,r2⟩:=qb0 b d1 2 o1 (by omega);obtain⟨d3,k,o3,hk,r3⟩:=qb0 b d2 12 o2 (by omega);obtain⟨d4,v,o4,hv,r4⟩:=qb0 b d3 40 o3 (by omega);have br:=qjr (e+a) 0 2;have hbr:0≤qaU (e+a) 0 2∧qaU (e+a) 0 2≤2:=by
     unfold qaU;simp only[show ¬(2:Int)<0 by omega,zci];split<;>(try split)<;>omega
    obtain⟨ys,d,o,y1,y2,l⟩:=qta b n (i+1) (qaU (e+a) 0 2) (xs++[⟨0,⟨qaU (e+a) 0 2,0⟩,k,v⟩]) d4 (by omega) o4 hbr (by simp;omega) (fun r hr=>by
     rcases zaz.1 hr with hr | hr
     ·exact hx r hr
     ·rw[List.mem_singleton]at hr;subst hr;exact⟨rfl,rfl,hbr,hk,hv⟩)
    refine⟨ys,d,o,y1,y2,.more ?_ l⟩;rw[zU];exact qMP ⟨r1,zap h,r2,⟨by omega,by omega⟩,br,r3,r4,by simp;omega,by simp;omega,qat (fun d hd=>by simp only[zL,zbu,or_false]at hd;rcases hd with rfl | rfl | rfl | rfl | rfl<;>exact⟨_,rfl⟩),⟨by omega,by omega⟩,trivial⟩
  ·exact⟨xs,d1,o1,by omega,hx,.last (qaf 0) (qMQ ⟨r1,zt h,trivial⟩)⟩
theorem qtb(b:List Int)(c:Cur)(hc:c.ok b):∃(d:Cur) (xs:List Record),d.ok b∧xs.length≤5∧(∀r∈xs,Input r)∧RetR prog 119 [.cur (c.e b) (d.e b)] (.vals [.one (.sl 5 (xs.map Record.e))]):=by
 obtain⟨ys,d,o,y1,y2,l⟩:=qta b 5 0 0 [] c rfl hc (by omega) (by simp) (by simp);exact⟨d,ys,o,y1,y2,qMR ⟨l,trivial⟩⟩
end Go.Proofs.YtdkobdhckkjmeaaGreat
namespace Go.Proofs.YtdkobdhckkjmeaaGreat
open Go.Sx Go.RowKit Go.Proofs.Tryz
def qdD(k a b:Int):List Node:=[⟨1,0,0,[1]⟩,⟨k,0,0,[2,5]⟩,⟨4,1+a,0,[3]⟩,⟨2,b,0,[4]⟩,⟨7,0,0,[1]⟩,⟨8,0,0,[]⟩]
def qbL(k a b c:Int):Nat→List Node
 | 0=>(qdD k a b).set 3 ⟨3,1+c,0,[4]⟩
 | 1=>(qdD k a b).set 4 ⟨8,0,0,[]⟩
 | 2=>(qdD k a b).set 2 ⟨4,1+a,0,[3,4]⟩
 | 3=>(qdD k a b++[(⟨8,0,0,[]⟩:Node)]).set 0 ⟨1,0,0,[1,6]⟩
 | _=>qdD k a b
structure Drawn (g:Graph):Prop where
 nodes:∃(k a b c:Int) (v:Nat),(k=5∨k=6)∧(0≤a∧a<3)∧(0≤b∧b<4)∧(0≤c∧c<3)∧v≤4∧g.nodes=qbL k a b c v
 workers:1≤g.workers∧g.workers≤3
 cap:1≤g.cap∧g.cap≤3
theorem Drawn.ok{g:Graph}(h:Drawn g):qax g=true:=by
 obtain⟨⟨k,a,b,c,v,hk,ha,hb,hc,hv,hn⟩,hw,hcap⟩:=h;obtain⟨nodes,workers,cap⟩:=g;simp only at hn hw hcap;have ea:a=0∨a=1∨a=2:=by omega
 have eb:b=0∨b=1∨b=2∨b=3:=by omega
 have ec:c=0∨c=1∨c=2:=by omega
 have ev:v=0∨v=1∨v=2∨v=3∨v=4:=by omega
 have ew:workers=1∨workers=2∨workers=3:=by omega
 have ep:cap=1∨cap=2∨cap=3:=by omega
 have key:∀k∈[(5:Int),6],∀a∈[(0:Int),1,2],∀b∈[(0:Int),1,2,3],∀c∈[(0:Int),1,2],∀v∈[0,1,2,3,4],(!(anyI (qbv ⟨qbL k a b c v,1,1⟩) 0 (qbL k a b c v))&&decide ((qbL k a b c v).length≤7)&&decide (1≤(qbL k a b c v).length))=true:=by decide +kernel
 have:=key k (by rcases hk with h | h<;>simp[h]) a (by rcases ea with h | h | h<;>simp[h]) b (by rcases eb with h | h | h | h<;>simp[h]) c (by rcases ec with h | h | h<;>simp[h]) v (by rcases ev with h | h | h | h | h<;>simp[h]);simp only[zj,zi]at this;obtain⟨⟨h1,h2⟩,h3⟩:=this;subst hn;have hnb:qbv ⟨qbL k a b c v,workers,cap⟩=qbv ⟨qbL k a b c v,1,1⟩:=rfl;unfold qax;simp only[zj];rw[hnb];refine⟨⟨⟨?_,?_⟩,?_⟩,h1⟩
 ·simp only[inR,zj,zi];omega
 ·simp only[inR,zj,zi];omega
 ·simp only[inR,zj,zi];omega
theorem qtc(b:List Int)(c:Cur)(hc:c.ok b):∃(d:Cur) (g:Graph),d.ok b∧Drawn g∧RetR prog 118 [.cur (c.e b) (d.e b)] (.vals [.agg g.e]):=by
 obtain⟨d1,n1,o1,h1,r1⟩:=qb0 b c 3 hc (by omega);obtain⟨d2,n2,o2,h2,r2⟩:=qb0 b d1 3 o1 (by omega);obtain⟨d3,x,o3,r3⟩:=qs9 b d2 3 o2 (by omega);obtain⟨d4,n4,o4,h4,r4⟩:=qb0 b d3 3 o3 (by omega);obtain⟨d5,n5,o5,h5,r5⟩:=qb0 b d4 4 o4 (by omega);obtain⟨d6,n6,o6,h6,r6⟩:=qb0 b d5 3 o5 (by omega);obtain⟨d7,n7,o7,h7,r7⟩:=qb0 b d6 6 o6 (by omega);have i1:inInt .i64 (1+n1):=⟨by omega,by omega⟩
 have i2:inInt .i64 (1+n2):=⟨by omega,by omega⟩
 have i4:inInt .i64 (1+n4):=⟨by omega,by omega⟩
 have i6:inInt .i64 (1+n6):=⟨by omega,by omega⟩
 have fin:∀(k:Int) (v:Nat) {ds:List (List D)},(k=5∨k=6)→v≤4→FitR ds ((qbL k n4 n5 n6 v).map Node.e)→RetR prog 118 [.cur (c.e b) (d7.e b)] (.vals [.agg [.sl 4 ds,I (1+n1),I (1+n2)]])→
   ∃(d:Cur) (g:Graph),d.ok b∧Drawn g∧RetR prog 118 [.cur (c.e b) (d.e b)] (.vals [.agg g.e]):=by
  intro k v ds hk hv hf hr;exact⟨d7,⟨qbL k n4 n5 n6 v,1+n1,1+n2⟩,o7,⟨⟨k,n4,n5,n6,v,hk,h4,h5,h6,hv,rfl⟩,by dsimp only;omega,by dsimp only;omega⟩,
   hr.fit (.cons (.agg (.cons (.sl 4 hf) (FitE.refl _))) .nil)⟩
 have f1:∀d,Fit d d:=.refl;by_cases e0:n7=0
 ·cases x
  ·exact fin 5 0 (.inl rfl) (by omega) (by repeat (first | exact .refl _ | constructor)) (qMK _ _ _ _ _ _ _ _ _ _ _ _ _ _ _ _ _ _ _ _ _ _ _ _ _ _ _ _ ⟨r1,i1,r2,i2,r3,rfl,r4,i4,r5,r6,i6,r7,by simp[e0],by omega,by simp,rfl,trivial⟩)
  ·exact fin 6 0 (.inr rfl) (by omega) (by repeat (first | exact .refl _ | constructor)) (qMF _ _ _ _ _ _ _ _ _ _ _ _ _ _ _ _ _ _ _ _ _ _ _ _ _ _ _ _ ⟨r1,i1,r2,i2,r3,rfl,r4,i4,r5,r6,i6,r7,by simp[e0],by omega,by simp,rfl,trivial⟩)
 by_cases e1:n7=1
 ·cases x
  ·exact fin 5 1 (.inl rfl) (by omega) (by repeat (first | exact .refl _ | constructor)) (qML _ _ _ _ _ _ _ _ _ _ _ _ _ _ _ _ _ _ _ _ _ _ _ _ _ _ _ _ ⟨r1,i1,r2,i2,r3,rfl,r4,i4,r5,r6,i6,r7,by simp[e0],by simp[e1],by omega,by simp,rfl,trivial⟩)
  ·exact fin 6 1 (.inr rfl) (by omega) (by repeat (first | exact .refl _ | constructor)) (qMG _ _ _ _ _ _ _ _ _ _ _ _ _ _ _ _ _ _ _ _ _ _ _ _ _ _ _ _ ⟨r1,i1,r2,i2,r3,rfl,r4,i4,r5,r6,i6,r7,by simp[e0],by simp[e1],by omega,by simp,rfl,trivial⟩)
 by_cases e2:n7=2
 ·cases x
  ·exact fin 5 2 (.inl rfl) (by omega) (by repeat (first | exact .refl _ | constructor)) (qMM _ _ _ _ _ _ _ _ _ _ _ _ _ _ _ _ _ _ _ _ _ _ _ _ _ _ _ _ ⟨r1,i1,r2,i2,r3,rfl,r4,i4,r5,r6,i6,r7,by simp[e0],by simp[e1],by simp[e2],by omega,by simp,rfl,trivial⟩)
  ·exact fin 6 2 (.inr rfl) (by omega) (by repeat (first | exact .refl _ | constructor)) (qMH _ _ _ _ _ _ _ _ _ _ _ _ _ _ _ _ _ _ _ _ _ _ _ _ _ _ _ _ ⟨r1,i1,r2,i2,r3,rfl,r4,i4,r5,r6,i6,r7,by simp[e0],by simp[e1],by simp[e2],by omega,by simp,rfl,trivial⟩)
 by_cases e3:n7=3
 ·cases x
  ·exact fin 5 3 (.inl rfl) (by omega) (by repeat (first | exact .refl _ | constructor)) (qMN _ _ _ _ _ _ _ _ _ _ _ _ _ _ _ _ _ _ _ _ _ _ _ _ _ _ _ _ ⟨r1,i1,r2,i2,r3,rfl,r4,i4,r5,r6,i6,r7,by simp[e0],by simp[e1],by simp[e2],by simp[e3],by simp,by simp,by omega,by simp,rfl,trivial⟩)
  ·exact fin 6 3 (.inr rfl) (by omega) (by repeat (first | exact .refl _ | constructor)) (qMI _ _ _ _ _ _ _ _ _ _ _ _ _ _ _ _ _ _ _ _ _ _ _ _ _ _ _ _ ⟨r1,i1,r2,i2,r3,rfl,r4,i4,r5,r6,i6,r7,by simp[e0],by simp[e1],by simp[e2],by simp[e3],by simp,by simp,by omega,by simp,rfl,trivial⟩)
 ·cases x
  ·exact fin 5 4 (.inl rfl) (by omega) (by repeat (first | exact .refl _ | constructor)) (qMO ⟨r1,i1,r2,i2,r3,rfl,r4,i4,r5,r6,i6,r7,by simp[e0],by simp[e1],by simp[e2],by simp[e3],trivial⟩)
  ·exact fin 6 4 (.inr rfl) (by omega) (by repeat (first | exact .refl _ | constructor)) (qMJ ⟨r1,i1,r2,i2,r3,rfl,r4,i4,r5,r6,i6,r7,by simp[e0],by simp[e1],by simp[e2],by simp[e3],trivial⟩)
def qin(p:Pick):Prop:=(1≤p.kind∧p.kind≤7)∧(0≤p.a∧p.a<3)∧(0≤p.b∧p.b<3)
theorem qM5(b:List Int)(c:Cur)(hc:c.ok b):∃(d:Cur) (p:Pick),d.ok b∧qin p∧RetR prog 242 [.cur (c.e b) (d.e b)] (.vals [.agg p.e]):=by
 obtain⟨d1,k,o1,h1,r1⟩:=qM4 b c [1,1,1,2,3,3,3,4,4,5,6,6,7] hc (by simp);obtain⟨d2,a,o2,h2,r2⟩:=qb0 b d1 3 o1 (by omega);have hk:1≤k∧k≤7:=by
  simp only[zL,zbu,or_false]at h1;omega
 by_cases e4:k=4
 ·obtain⟨d3,m,o3,h3,r3⟩:=qb0 b d2 2 o2 (by omega);have j1:inInt .i64 (a+1):=⟨by omega,by omega⟩
  have j2:inInt .i64 (a+1+m):=⟨by omega,by omega⟩
  exact⟨d3,⟨k,a,(a+1+m).tmod 3⟩,o3,⟨hk,h2,Int.tmod_nonneg _ (by omega),Int.tmod_lt_of_pos _ (by omega)⟩,qMT ⟨r1,r2,by simp[e4],qMS _ _ _ _ _ _ _ _ ⟨j1,r3,j2,by decide,trivial⟩,trivial⟩⟩
 by_cases e5:k=5
 ·obtain⟨d3,m,o3,h3,r3⟩:=qb0 b d2 2 o2 (by omega);have j1:inInt .i64 (a+1):=⟨by omega,by omega⟩
  have j2:inInt .i64 (a+1+m):=⟨by omega,by omega⟩
  exact⟨d3,⟨k,a,(a+1+m).tmod 3⟩,o3,⟨hk,h2,Int.tmod_nonneg _ (by omega),Int.tmod_lt_of_pos _ (by omega)⟩,qMV ⟨r1,r2,by simp[e4],by simp[e5],qMU _ _ _ _ _ _ _ _ ⟨j1,r3,j2,by decide,trivial⟩,trivial⟩⟩
 ·exact⟨d2,⟨k,a,0⟩,o2,⟨hk,h2,by dsimp only;omega⟩,qMW ⟨r1,r2,by simp[e4],by simp[e5],trivial⟩⟩
theorem flatP(p:Pick):Flat [p.e]:=qat fun d hd=>by
 simp only[Pick.e,zL,zbu,or_false]at hd;rcases hd with rfl | rfl | rfl<;>exact⟨_,rfl⟩
theorem qtd(b:List Int)(m:Nat)(hm:m≤1000):∀(n i:Nat) (xs:List Pick) (c:Cur),i+n=m+1→c.ok b→xs.length≤i→(∀p∈xs,qin p)→
  ∃(ys:List Pick) (d:Cur),d.ok b∧ys.length≤m+1∧(∀p∈ys,qin p)∧qam prog (qaa f120 0) (qim (b.map eU) m i (xs.map Pick.e) c.i c.h) (.exit 0) (qno (b.map eU) (ys.map Pick.e) d.i d.h)
 | n,i,xs,c,hin,hc,hl,hx=>by
  obtain⟨d1,k,o1,hk,r1⟩:=qb0 b c ((m:Int)+1) hc (by omega);by_cases h:(i:Int)<k
  ·match n with
   | 0=>omega
   | n+1=>
    obtain⟨d2,p,o2,hp,r2⟩:=qM5 b d1 o1;obtain⟨ys,d,o,y1,y2,l⟩:=qtd b m hm n (i+1) (xs++[p]) d2 (by omega) o2 (by simp;omega) (fun z hz=>by
     rcases zaz.1 hz with hz | hz
     ·exact hx z hz
     ·rw[List.mem_singleton]at hz;subst hz;exact hp)
    refine⟨ys,d,o,y1,y2,.more ?_ l⟩;rw[zU];exact qMX ⟨⟨by omega,by omega⟩,r1,zap h,r2,by simp;omega,by simp;omega,flatP p,⟨by omega,by omega⟩,trivial⟩
  ·exact⟨xs,d1,o1,by omega,hx,.last (qaf 0) (qMY ⟨⟨by omega,by omega⟩,r1,zt h,trivial⟩)⟩
theorem qte(b:List Int)(c:Cur)(m:Nat)(hm:m≤1000)(hc:c.ok b):∃(d:Cur) (ps:List Pick),d.ok b∧ps.length≤m+1∧(∀p∈ps,qin p)∧RetR prog 120 [.cur (c.e b) (d.e b),.ro (.one (I m))] (.vals [.one (.sl 3 (ps.map Pick.e))]):=by
 obtain⟨ys,d,o,y1,y2,l⟩:=qtd b m hm (m+1) 0 [] c (by omega) hc (by simp) (by simp);exact⟨d,ys,o,y1,y2,qMZ ⟨l,trivial⟩⟩
theorem qM6(b:List Int)(hb:Bytes b):∃(g:Graph) (xs:List Record) (ps:List Pick),Drawn g∧(xs.length≤5∧∀r∈xs,Input r)∧(ps.length≤81∧∀p∈ps,qin p)∧
  Rt 16 [.one (.sl 1 (b.map eU))] [.agg g.e,.one (.sl 5 (xs.map Record.e)),.one (.sl 3 (ps.map Pick.e))]:=by
 obtain⟨c,hc,r0⟩:=qs8 b hb;obtain⟨d1,g,o1,hg,r1⟩:=qtc b c hc;obtain⟨d2,xs,o2,x1,x2,r2⟩:=qtb b d1 o1;obtain⟨d3,ps,o3,p1,p2,r3⟩:=qte b d2 80 (by omega) o2;exact⟨g,xs,ps,hg,⟨x1,x2⟩,⟨p1,p2⟩,qM0 ⟨r0,r1,r2,r3,trivial⟩⟩
end Go.Proofs.YtdkobdhckkjmeaaGreat
namespace Go.Proofs.YtdkobdhckkjmeaaGreat
open Go.Sx Go.RowKit Go.Proofs.Tryz
theorem Drawn.size{g:Graph}(h:Drawn g):g.sz≤100:=by
 obtain⟨⟨k,a,b,c,v,hk,ha,hb,hc,hv,hn⟩,hw,hcap⟩:=h;obtain⟨nodes,workers,cap⟩:=g;simp only at hn;subst hn;have e:(⟨qbL k a b c v,workers,cap⟩:Graph).sz=szS Node.sz (qbL k a b c v):=rfl;rw[e];have ev:v=0∨v=1∨v=2∨v=3∨v=4:=by omega
 rcases ev with rfl | rfl | rfl | rfl | rfl<;>simp[szS,qbL,qdD,Node.sz]
theorem Input.fine{r:Record}(h:Input r):qco r=false:=by
 obtain⟨h1,h2,h3,h4,h5⟩:=h;have ok:qaB r=true:=by
  simp only[qaB,qbb,qaL,inR,zj,zi,h1,h2];omega
 simp[qco,ok,h1,h2]
theorem qkl{g:Graph}{xs:List Record}(hg:Drawn g)(hl:xs.length≤6)(hx:∀r∈xs,Input r):newOk g xs=true:=
 qia.2 ⟨hg.ok,by omega,zP.2 fun r hr=>by simp[(hx r hr).fine]⟩
end Go.Proofs.YtdkobdhckkjmeaaGreat
namespace Go.Proofs.YtdkobdhckkjmeaaGreat
open Go.Sx Go.RowKit Go.Proofs.Tryz
def runD(c:Cluster)(b:Bool):List D:=[.sl 4 (c.graph.nodes.map Node.e),I c.graph.workers,I c.graph.cap,.sl 8 (c.workers.map Worker.e),.sl 6 (c.links.map Link.e),.sl 5 (c.tokens.map Token.e),.sl 3 (c.news.map News.e),B b]
abbrev runE(c:Cluster):List D:=runD c (qai c)
theorem qkm(w:Worker)(e:Int)(r:Bool)(h:qaz w e=r)(hw:w.sz≤8388608):Rt 163 [.agg w.e,.one (I e)] [.one (B r)]:=h▸qqK w e hw
theorem qnq(c:Cluster)(hc:c.sz≤8388608)(hw:GotLe c):RetR prog 127 [.ro (.agg c.e)] (.new (runE c)):=
 qJC ⟨qKE c hc,qIp c hc hw,trivial⟩
theorem qnr{α:Type}{f:α→List D}{xs:List α}{i:Nat}{a:α}:(xs.map f).set i (f a)=(xs.set i a).map f:=List.map_set.symm
theorem qb1{c:Cluster}{i:Int}{x:Worker}(h:wAt c i=some x):0≤i∧i<(↑(c.workers.map Worker.e).length:Int)∧(c.workers.map Worker.e)[i.toNat]?=some x.e:=by
 obtain⟨h1,h2,h3⟩:=qaC h;exact⟨h1,by rw[zb];omega,qad Worker.e h3⟩
theorem qcc{c:Cluster}{i:Int}{x:Worker}(h:wAt c i=some x)(hc:c.sz≤8388608):x.sz≤8388608:=Cluster.worker_sz1 hc (qag (qaC h).2.2)
theorem qM7{l:List News}{i:Nat}(hi:i<l.length):([]++((l.map News.e).drop 0).take (((some (i:Int)).getD (↑(l.map News.e).length:Int)).toNat-0)++((l.map News.e).drop ((some ((i:Int)+1)).getD 0).toNat).take ((l.map News.e).length-((some ((i:Int)+1)).getD 0).toNat))=(cutAt l i).map News.e:=by
 have e1:((i:Int)+1).toNat=i+1:=by omega
 simp only[cutAt,zV,zae,Nat.sub_zero,zck,List.nil_append,e1,zU,zcr,List.map_drop]
 congr 1
 rw[zbk (by simp)]
theorem qtf{l:List News}{i:Nat}:((l.map News.e).drop ((some ((i:Int)+1)).getD 0).toNat).take ((l.map News.e).length-((some ((i:Int)+1)).getD 0).toNat)=(l.drop (i+1)).map News.e:=by
 have e1:((i:Int)+1).toNat=i+1:=by omega
 simp only[zV,e1,List.map_drop];rw[zbk (by simp)]
theorem qns{c:Cluster}(h:qai c=true){i:Nat}{n:News}(hn:c.news[i]?=some n){w:Int}(hw:(n.dest==w)=true):∃x,wAt c w=some x:=by
 have hb:=qm1 h hn;simp only[qbP,inR,zy,zX,zi]at hb;have h2:=(qaH.1 h).2.1;have e:=eq_of_beq hw;exact qcA (by omega) (by omega)
theorem qkn{α:Type}{f:α→List D}(h:∀a,∀d∈f a,∃x,d=.v x){l:List (List D)}{xs:List α}(hl:l=xs.map f):Flat l:=hl▸qae f h xs
theorem qtg{c:Cluster}{w:Int}{i:Nat}{n:News}{x:Worker}(h1:c.news.findIdx? (fun n=>n.dest==w)=some i)(hok:qai c=true)(hn:c.news[i]?=some n)(hx:wAt c w=some x):qbx c w=(setN (setW c w (hears x n)) (cutAt c.news i),true):=by
 unfold qbx;simp only[h1,hok,zbb,hn,hx]
theorem qM8(c:Cluster)(w:Int)(hc:c.sz≤8388608):RetR prog 246 [.ref (runE c) (runE (qbx c w).1),.ro (.one (I w))] (.vals [.one (B (qbx c w).2)]):=by
 have hl:=qfz hc;have hok':=fun h=>qr7 (c:=c) (w:=w) h
 cases hok:qai c with
 | false=>
  have e:qbx c w=(c,false):=by
   unfold qbx;split<;>simp[hok]
  rw[e];simp only[runE,hok];cases hn:c.news with
  | nil=>
   have l:qam prog (qaa f246 0) (qdd w 0 (c.graph.nodes.map Node.e) c.graph.workers c.graph.cap (c.workers.map Worker.e) (c.links.map Link.e) (c.tokens.map Token.e) (c.news.map News.e) false) (.exit 0) _:=.last (qaf 0) (qso ⟨by simp[hn],trivial⟩);exact qm8 ⟨l,trivial⟩
  | cons a l=>
   have l:qam prog (qaa f246 0) (qdd w 0 (c.graph.nodes.map Node.e) c.graph.workers c.graph.cap (c.workers.map Worker.e) (c.links.map Link.e) (c.tokens.map Token.e) (c.news.map News.e) false) (.exit 0) _:=.last (qaf 0) (qJG ⟨dT (by simp[hn]<;>omega),rfl,trivial⟩);exact qm8 ⟨l,trivial⟩
 | true=>
  have hok':=hok' hok;have l:=qaW (P:=prog) (c:=(qaa f246 0)) c.news (fun n=>n.dest==w) (fun i=>qdd w i (c.graph.nodes.map Node.e) c.graph.workers c.graph.cap (c.workers.map Worker.e) (c.links.map Link.e) (c.tokens.map Token.e) (c.news.map News.e) true)
   (X:=fun i n=>match wAt c w with
    | some x=>qka true (c.graph.nodes.map Node.e) c.graph.workers c.graph.cap ((setW c w (hears x n)).workers.map Worker.e) (c.links.map Link.e) (c.tokens.map Token.e) ((cutAt c.news i).map News.e) true
    | none=>⟨[],[]⟩) qaE (qaf 0)
   (fun i a ha h=>qJD ⟨lt1 (lt_of ha),rfl,lt0,lt2 (lt_of ha),qac News.e ha,by simp only[bne,h];rfl,up1 (lt_of ha) hl,trivial⟩)
   (fun i a ha h=>by
    obtain⟨x,hx⟩:=qns hok ha h;have hi:=lt_of ha;obtain⟨w0,w1,w2⟩:=qb1 hx;have hs:=qcc hx hc;simp only[hx];rw[←qM7 hi];cases hd:qaz x a.epoch with
    | true=>
     rw[show hears x a=x by unfold hears;rw[hd];rfl,qdV hx];exact qJF ⟨lt1 hi,rfl,lt0,lt2 hi,qac News.e ha,by simp only[bne,h];rfl,by simp,by simp,by simp;omega,by simp;omega,by simp;omega,qkn (xs:=c.news.take i) News.flat (by simp),up1 hi hl,by simp;omega,by simp;omega,by simp,by simp;omega,by simp;omega,qkn (xs:=c.news.drop (i+1)) News.flat qtf,w0,w1,w2,qms x a.epoch true hd hs,rfl,trivial⟩
    | false=>
     have hdl:x.dones.length≤8388608:=by simp only[Worker.sz]at hs;omega
     have e2:(setW c w (hears x a)).workers.map Worker.e=(c.workers.map Worker.e).set w.toNat (told x a.epoch a.capped).e:=by
      rw[show hears x a=told x a.epoch a.capped by unfold hears;rw[hd];rfl];exact qnr.symm
     rw[e2];have e3:(told x a.epoch a.capped).e=[.sl 5 (x.queue.map Record.e),.sl 5 (x.staged.map Record.e),.sl 5 (x.inputs.map Record.e),.sl 4 (x.cells.map Cell.e),.sl 1 (x.sums.map eI),.sl 1 (x.black.map eB),.sl 1 (x.caps.map eB),.sl 2 (x.dones.map Done.e++[[I a.epoch,B a.capped]])]:=by
      simp only[told,Worker.e,zU];rfl
     rw[e3];exact qJE ⟨lt1 hi,rfl,lt0,lt2 hi,qac News.e ha,by simp only[bne,h];rfl,by simp,by simp,by simp;omega,by simp;omega,by simp;omega,qkn (xs:=c.news.take i) News.flat (by simp),up1 hi hl,by simp;omega,by simp;omega,by simp,by simp;omega,by simp;omega,qkn (xs:=c.news.drop (i+1)) News.flat qtf,w0,w1,w2,qms x a.epoch false hd hs,rfl,w0,w1,w2,by simp;omega,by simp;omega,w2,rfl,qat (Done.flat ⟨a.epoch,a.capped⟩),rfl,rfl,rfl,rfl,rfl,rfl,rfl,rfl,rfl,rfl,rfl,w0,w1,w2,rfl,trivial⟩)
   (qso ⟨ge1,trivial⟩)
  rcases l with⟨_,h1,_,h2⟩ | ⟨i,a,ha,hp,_,h1,_,h2⟩
  ·have e:qbx c w=(c,false):=by unfold qbx;simp only[h1]
   rw[e];simp only[runE,hok];exact qm8 ⟨h2,trivial⟩
  ·obtain⟨x,hx⟩:=qns hok ha hp;rw[qtg h1 hok ha hx]at hok' ⊢;simp only[hx]at h2;simp only[runE,hok,hok'];exact qJH ⟨h2,trivial⟩
theorem qM9(c:Cluster)(w:Int)(hc:c.sz≤8388608)(hw:GotLe c):Rt 151 [.agg c.e,.one (I w)] [.agg (qbx c w).1.e,.one (B (qbx c w).2)]:=by
 have hl:=qfz hc;have cp:=qde c hc;have ix:=qqI c.news (fun n=>n.dest==w) 260 [.ptr [I w]] hl (by kernel_rfl) (fun x _=>qJI trivial);have ok:=qhL c hc hw;unfold idxI at ix;cases h1:c.news.findIdx? (fun n=>n.dest==w) with
 | none=>
  simp only[h1]at ix;rw[show qbx c w=(c,false) by unfold qbx;simp only[h1]];exact qJJ ⟨cp,ix,dT (by omega),trivial⟩
 | some i=>
  simp only[h1]at ix;cases hok:qai c with
  | false=>
   rw[hok]at ok;rw[show qbx c w=(c,false) by unfold qbx;simp[h1,hok]];exact qJK ⟨cp,ix,dF (by omega),ok,rfl,trivial⟩
  | true=>
   rw[hok]at ok;obtain⟨hi,hp,_⟩:=zai.1 h1;have ha:c.news[i]?=some c.news[i]:=zu hi;generalize c.news[i]=a at ha hp;obtain⟨x,hx⟩:=qns hok ha hp;obtain⟨w0,w1,w2⟩:=qb1 hx;have hs:=qcc hx hc;rw[qtg h1 hok ha hx];have dl:=qKI c.news i (i+1) (by omega) (by omega);rw[show (((i+1:Nat):Int))=(i:Int)+1 by omega]at dl;cases hd:qaz x a.epoch with
   | true=>
    rw[show hears x a=x by unfold hears;rw[hd];rfl,qdV hx];exact qJM ⟨cp,ix,dF (by omega),ok,rfl,lt0,lt2 hi,qac News.e ha,up1 hi hl,dl,w0,w1,w2,qkm x a.epoch true hd hs,rfl,trivial⟩
   | false=>
    have hdl:x.dones.length≤8388608:=by simp only[Worker.sz]at hs;omega
    have e2:(setW c w (hears x a)).workers.map Worker.e=(c.workers.map Worker.e).set w.toNat (told x a.epoch a.capped).e:=by
     rw[show hears x a=told x a.epoch a.capped by unfold hears;rw[hd];rfl];exact qnr.symm
    have e3:(told x a.epoch a.capped).e=[.sl 5 (x.queue.map Record.e),.sl 5 (x.staged.map Record.e),.sl 5 (x.inputs.map Record.e),.sl 4 (x.cells.map Cell.e),.sl 1 (x.sums.map eI),.sl 1 (x.black.map eB),.sl 1 (x.caps.map eB),.sl 2 (x.dones.map Done.e++[[I a.epoch,B a.capped]])]:=by
     simp only[told,Worker.e,zU];rfl
    have e4:(setN (setW c w (hears x a)) (cutAt c.news i)).e=[.sl 4 (c.graph.nodes.map Node.e),I c.graph.workers,I c.graph.cap,.sl 8 ((c.workers.map Worker.e).set w.toNat (told x a.epoch a.capped).e),.sl 6 (c.links.map Link.e),.sl 5 (c.tokens.map Token.e),.sl 3 ((cutAt c.news i).map News.e)]:=by
     rw[←e2];rfl
    rw[e4,e3];exact qJL ⟨cp,ix,dF (by omega),ok,rfl,lt0,lt2 hi,qac News.e ha,up1 hi hl,dl,w0,w1,w2,qkm x a.epoch false hd hs,rfl,w0,w1,w2,by simp;omega,by simp;omega,w2,rfl,qat (Done.flat ⟨a.epoch,a.capped⟩),rfl,rfl,rfl,rfl,rfl,rfl,rfl,rfl,w0,w1,w2,rfl,trivial⟩
end Go.Proofs.YtdkobdhckkjmeaaGreat
namespace Go.Proofs.YtdkobdhckkjmeaaGreat
open Go.Sx Go.RowKit Go.Proofs.Tryz
theorem beq0(a b:Nat):(((a:Int)+(b:Int))==0)=(a+b==0):=by
 rw[Bool.eq_iff_iff];simp only[zE];omega
theorem qNa(w:Worker)(e:Int)(hw:w.sz≤8388608):Rt 168 [.agg w.e,.one (I e)] [.one (B (qfA w e))]:=by
 have hl:w.inputs.length≤8388608:=by simp only[Worker.sz]at hw;omega
 have l:=qaW (P:=prog) (c:=(qaa f168 0)) w.inputs (fun r=>decide (r.stamp.epoch≤e)) (fun i=>qfJ (w.queue.map Record.e) (w.staged.map Record.e) (w.inputs.map Record.e) (w.cells.map Cell.e) (w.sums.map eI) (w.black.map eB) (w.caps.map eB) (w.dones.map Done.e) e i) (X:=fun _ _=>qm9 true) qaE (qaf 0)
  (fun i a ha h=>qKq ⟨lt1 (lt_of ha),lt0,lt2 (lt_of ha),qac Record.e ha,h,up1 (lt_of ha) hl,trivial⟩)
  (fun i a ha h=>qKp ⟨lt1 (lt_of ha),lt0,lt2 (lt_of ha),qac Record.e ha,h,trivial⟩)
  (qKr ⟨ge1,trivial⟩)
 unfold qfA;rcases l with⟨_,_,h1,h2⟩ | ⟨i,a,_,_,_,_,h1,h2⟩
 ·rw[h1];exact qKt ⟨h2,trivial⟩
 ·rw[h1];exact qKs ⟨h2,trivial⟩
theorem qNb(w:Worker)(e:Int)(hw:w.sz≤8388608):Rt 272 [.agg w.e,.one (I e)] [.one (B (qfA w e))]:=by
 have hl:w.inputs.length≤8388608:=by simp only[Worker.sz]at hw;omega
 exact qKx ⟨qqH w.inputs (fun r=>decide (r.stamp.epoch≤e)) 319 [.ptr [I e]] hl (by kernel_rfl) (fun x _=>qKy trivial),trivial⟩
theorem qNc(w:Worker)(e:Int)(hw:w.sz≤8388608):Rt 169 [.agg w.e,.one (I e)] [.one (I ((↑((qa5 e w.queue).map Record.e).length:Int)+(↑((qa5 e w.staged).map Record.e).length:Int)))]:=by
 simp only[Worker.sz]at hw;have k1:(qa5 e w.queue).length≤w.queue.length:=zat _ _;have k2:(qa5 e w.staged).length≤w.staged.length:=zat _ _;exact qKw ⟨qqA w.queue e (by omega),qqA w.staged e (by omega),⟨by simp only[zb];omega,by simp only[zb];omega⟩,trivial⟩
theorem qNd(w:Worker)(e:Int)(hw:w.sz≤8388608):Rt 49 [.agg w.e,.one (I e)] [.one (B (qbF w e))]:=by
 have o:=qNa w e hw;unfold qbF;cases h:qfA w e with
 | true=>rw[h]at o;exact qKv ⟨o,rfl,trivial⟩
 | false=>
  rw[h]at o;have a:=qNc w e hw;rw[zb,zb]at a;have b:=qKu ⟨o,rfl,a,trivial⟩;rw[beq0]at b;exact b
theorem qNe(w:Worker)(e:Int)(hw:w.sz≤8388608):Rt 273 [.agg w.e,.one (I e)] [.one (I ((↑((qa5 e w.queue).map Record.e).length:Int)+(↑((qa5 e w.staged).map Record.e).length:Int)))]:=by
 simp only[Worker.sz]at hw;have k1:(qa5 e w.queue).length≤w.queue.length:=zat _ _;have k2:(qa5 e w.staged).length≤w.staged.length:=zat _ _;exact qKB ⟨qgk w.queue e (by omega),qgk w.staged e (by omega),⟨by simp only[zb];omega,by simp only[zb];omega⟩,trivial⟩
theorem qNf(w:Worker)(e:Int)(hw:w.sz≤8388608):Rt 164 [.agg w.e,.one (I e)] [.one (B (qbF w e))]:=by
 have o:=qNb w e hw;unfold qbF;cases h:qfA w e with
 | true=>rw[h]at o;exact qKA ⟨o,rfl,trivial⟩
 | false=>
  rw[h]at o;have a:=qNe w e hw;rw[zb,zb]at a;have b:=qKz ⟨o,rfl,a,trivial⟩;rw[beq0]at b;exact b
theorem qth(w:Worker)(e:Int)(r:Bool)(h:qbF w e=r)(hw:w.sz≤8388608):Rt 49 [.agg w.e,.one (I e)] [.one (B r)]:=h▸qNd w e hw
theorem qti(w:Worker)(e:Int)(r:Bool)(h:qbF w e=r)(hw:w.sz≤8388608):Rt 164 [.agg w.e,.one (I e)] [.one (B r)]:=h▸qNf w e hw
end Go.Proofs.YtdkobdhckkjmeaaGreat
