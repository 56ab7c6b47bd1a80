import Derived.Test.YthfnndblgbjniaaGreatT5
import Derived.Test.YthfnndblgbjniaaGreatR35
import Derived.Test.YthfnndblgbjniaaGreatGD
import Derived.Test.YthfnndblgbjniaaGreatP86
set_option linter.unusedVariables false
set_option linter.unusedSimpArgs false
namespace Go.Proofs.YthfnndblgbjniaaGreat
open Go.Sx Go.RowKit Go.Proofs.Tryz
def h6(n:Int):List D:=[.v (.int .u8 n)]
structure dY where
 i:Int
 h:Int
def dY.e(b:List Int)(c:dY):List D:=[.J 1 (b.map h6),I c.i,I c.h]
def Bytes(b:List Int):Prop:=b.length<=8388608/\∀x∈b,0<=x/\x<=255
def dY.ok(b:List Int)(c:dY):Prop:=Bytes b/\0<=c.i/\c.i<=b.length
theorem aD6{P:Program}{t:TypeId}{ds:List D}(hu:P.underlying t=some (.int .u8))(h:kN P t ds):∃n,ds=h6 n/\0<=n/\n<=255:=by
 have U:∃n,ds=[.v (.int .u8 n)]/\(Lit.int .u8 n).wf=true:=by cases h<;>simp_all
 obtain⟨n,e,hw⟩:=U;refine⟨n,e,?_⟩;simp[Lit.wf]at hw;have aA:IntKind.u8.min=0:=rfl;rw[aA]at hw;exact hw
theorem aAV:prog.cellsOf 5=1:=by kernel_rfl
theorem aCm{ds:List D}(h:kN prog 22 ds):∃xs:List Int,ds=[.J 1 (xs.map h6)]/\(xs.length:Int)<=9223372036854775807/\∀a∈xs,(fun n=>0<=n/\n<=255) a:=
 azQ h6 (fun n=>0<=n/\n<=255) Tryz.underlying22 aAV (fun ds h=>aD6 Tryz.underlying5 h) h
theorem aCn{cw:cR}(h:E3 prog 22 cw):∃xs:List Int,cw=.one (.J 1 (xs.map h6))/\(xs.length:Int)<=9223372036854775807/\∀a∈xs,(fun n=>0<=n/\n<=255) a:=by
 cases cw with
 | agg ds=>have:=h.2;simp[tG,Tryz.underlying22]at this
 | one d=>
  obtain⟨x,e,ag⟩:=aCm h.1;grind
theorem Vk{P:Program}(a:Int)(n:Nat):∃m:Int,∀t x y,nj P .shr t x y (.int .i64 a) (.int .u64 (n:Int)) (.int .i64 m):=⟨_,fun _ _ _=>aBn⟩
theorem aCo{P:Program}(a b:Int):∃m:Int,∀t x y,nj P .xor t x y (.int .i64 a) (.int .i64 b) (.int .i64 m):=⟨_,fun _ _ _=>aBo⟩
theorem Oh{P:Program}(a:Int)(k:Nat)(hk:k<2 ^ 62):∃m:Int,(0<=m/\m<=k)/\∀t x y,nj P .and t x y (.int .i64 a) (.int .i64 (k:Int)) (.int .i64 m):=⟨_,aBq a k hk,fun _ _ _=>aBp⟩
theorem Vl(b:List Int)(aw:Bytes b):∀(n i:Nat) (h:Int),i+n=b.length->0<=h/\h<=1073741823->∃kS,c8 prog (ap f24 0) (AR (b.map h6) i h) (.exit 0) (GL (b.map h6) kS)
 | 0,i,h,hi,bO=>⟨h,.last (cn 0) (aBx ⟨by grind,aa⟩)⟩
 | n+1,i,h,hi,bO=>by
  have al:=aw.1;obtain⟨x,ag⟩:=c5 (xs:=b) (i:=i) (by omega);have aw:=aw.2 x (cD ag);by_cases aJ:(i:Int)<4000
  ·obtain⟨m,hm,r⟩:=Oh (P:=prog) (h*131+x+7) 1073741823 (by decide);obtain⟨kS,l⟩:=Vl b ‹Bytes b› n (i+1) m (by omega) hm;exact⟨kS,.more (aBv ⟨bV (by omega),k' aJ,⟨by omega,by omega⟩,bx,bH (by omega),bA h6 ag,⟨by omega,by omega⟩,⟨by omega,by omega⟩,⟨by omega,by omega⟩,r _ _ _,⟨by omega,by omega⟩,aa⟩) l⟩
  exact⟨h,.last (cn 0) (aBw ⟨bV (by omega),o8 aJ,aa⟩)⟩
theorem GN(b:List Int)(aw:Bytes b):∃c:dY,c.ok b/\b4 prog 24 [.ro (.one (.J 1 (b.map h6)))] (.iY [some 0,none,none] (c.e b)):=by
 have al:=aw.1;obtain⟨kS,l⟩:=Vl b aw b.length 0 (94701+(↑(b.map h6).length:Int)) (by omega) ⟨by omega,by simp;omega⟩;exact⟨⟨0,kS⟩,⟨aw,by grind,by grind⟩,aBy ⟨⟨by omega,by simp;omega⟩,l,aa⟩⟩
theorem GO(b:List Int)(c:dY)(ai:c.ok b):∃(d:dY) (n:Int),d.ok b/\(0<=n/\n<=255)/\b4 prog 106 [.cur (c.e b) (d.e b)] (.vals [.one (I n)]):=by
 obtain⟨⟨h1,U⟩,aA,aJ⟩:=ai;obtain⟨k4,cg⟩:=Vk (P:=prog) (IntKind.i64.wrap (IntKind.i64.wrap (c.h*6364136223846793005)+1442695040888963407)) 33;obtain⟨jM,eG⟩:=Vk (P:=prog) (IntKind.i64.wrap (IntKind.i64.wrap (c.h*6364136223846793005)+1442695040888963407)) 45;obtain⟨lm,km⟩:=aCo (P:=prog) k4 jM;obtain⟨n6,m6,p2⟩:=Oh (P:=prog) lm 255 (by decide);by_cases hi:c.i<b.length
 ·obtain⟨x,ag⟩:=c5 (xs:=b) (i:=c.i.toNat) (by omega);have aw:=U x (cD ag);obtain⟨n8,m8,aDM⟩:=Oh (P:=prog) (IntKind.i64.wrap (n6+IntKind.i64.wrap x)) 255 (by decide);exact⟨⟨c.i+1,IntKind.i64.wrap (IntKind.i64.wrap (c.h*6364136223846793005)+1442695040888963407)⟩,n8,⟨⟨h1,U⟩,by grind,by grind⟩,m8,aBz ⟨cg _ _ _,eG _ _ _,km _ _ _,p2 _ _ _,by grind,aA,by grind,by rw[dI,ag];rfl,aDM _ _ _,⟨by omega,by omega⟩,aa⟩⟩
 exact⟨⟨c.i,IntKind.i64.wrap (IntKind.i64.wrap (c.h*6364136223846793005)+1442695040888963407)⟩,n6,⟨⟨h1,U⟩,aA,aJ⟩,m6,aBA ⟨cg _ _ _,eG _ _ _,km _ _ _,p2 _ _ _,by grind,aa⟩⟩
theorem ei(b:List Int)(c:dY)(k:Int)(ai:c.ok b)(hk:1<=k/\k<=1000000):∃(d:dY) (n:Int),d.ok b/\(0<=n/\n<k)/\b4 prog 61 [.cur (c.e b) (d.e b),.ro (.one (I k))] (.vals [.one (I n)]):=by
 have md:∀m:Int,0<=m->0<=m.tmod k/\m.tmod k<k:=fun m hm=>⟨Int.tmod_nonneg _ hm,Int.tmod_lt_of_pos m (by omega)⟩
 obtain⟨d1,ib,cy,e7,bC⟩:=GO b c ai;by_cases h:k<=256
 ·exact⟨d1,_,cy,md ib e7.1,aBB ⟨o8 (by omega),k' h,bC,by omega,aa⟩⟩
 obtain⟨d2,iI,ci,fT,b2⟩:=GO b d1 cy;obtain⟨d3,k4,cI,sv,cg⟩:=GO b d2 ci;obtain⟨d4,jM,fs,JA,eG⟩:=GO b d3 cI;exact⟨d4,_,fs,md _ (by omega),aBC ⟨o8 (by omega),o8 h,bC,b2,cg,eG,⟨by omega,by omega⟩,⟨by omega,by omega⟩,⟨by omega,by omega⟩,⟨by omega,by omega⟩,⟨by omega,by omega⟩,⟨by omega,by omega⟩,by omega,aa⟩⟩
theorem AS(b:List Int)(c:dY)(k:Int)(ai:c.ok b)(hk:1<=k/\k<=1000000):∃(d:dY) (x:Bool),d.ok b/\b4 prog 66 [.cur (c.e b) (d.e b),.ro (.one (I k))] (.vals [.one (B x)]):=by
 obtain⟨d,n,o,_,r⟩:=ei b c k ai hk;exact⟨d,_,o,aBD ⟨r,aa⟩⟩
theorem ni(b:List Int)(c:dY)(xs:List Int)(ai:c.ok b)(hk:1<=xs.length/\xs.length<=1000):∃(d:dY) (n:Int),d.ok b/\n∈xs/\b4 prog 64 [.cur (c.e b) (d.e b),.ro (.one (.J 1 (xs.map bd)))] (.vals [.one (I n)]):=by
 obtain⟨d,n,o,aw,r⟩:=ei b c (xs.length:Int) ai (by omega);obtain⟨x,ag⟩:=c5 (xs:=xs) (i:=n.toNat) (by omega);refine⟨d,x,o,cD ag,aBE ⟨?_,aw.1,by grind,by rw[dI,ag];rfl,aa⟩⟩;rw[b'];exact r
end Go.Proofs.YthfnndblgbjniaaGreat
namespace Go.Proofs.YthfnndblgbjniaaGreat
open Go.Sx Go.RowKit Go.Proofs.Tryz
def Input(r:az):Prop:=r.op=0/\r.bl.dc=0/\(0<=r.bl.ba/\r.bl.ba<=2)/\(0<=r.key/\r.key<12)/\(0<=r.val/\r.val<40)
theorem Vm(b:List Int):∀(n i:Nat) (e:Int) (xs:List az) (c:dY),i+n=5->c.ok b->(0<=e/\e<=2)->xs.length<=i->(∀r∈xs,Input r)->
  ∃(ys:List az) (d:dY),d.ok b/\ys.length<=5/\(∀r∈ys,Input r)/\c8 prog (ap f100 0) (CL (b.map h6) i e (xs.map az.e) c.i c.h) (.exit 0) (Ob (b.map h6) (ys.map az.e) d.i d.h)
 | n,i,e,xs,c,iU,ai,he,al,ag=>by
  obtain⟨d1,m,cy,aw,bC⟩:=ei b c 6 ai (by omega);by_cases h:(i:Int)<m
  ·match n with
   | 0=>omega
   | n+1=>
    obtain⟨d2,a,ci,ah,b2⟩:=ei b d1 2 cy (by omega);obtain⟨d3,k,cI,hk,cg⟩:=ei b d2 12 ci (by omega);obtain⟨d4,v,fs,bF,eG⟩:=ei b d3 40 cI (by omega);have qb:=GZ (e+a) 0 2;have Sb:0<=gd (e+a) 0 2/\gd (e+a) 0 2<=2:=by
     unfold gd;simp only[show ¬(2:Int)<0 by omega,mh];split<;>(try split)<;>omega
    obtain⟨ys,d,o,eH,e4,l⟩:=Vm b n (i+1) (gd (e+a) 0 2) (xs++[⟨0,⟨gd (e+a) 0 2,0⟩,k,v⟩]) d4 (by omega) fs Sb (by simp;omega) (fun r aC=>by
     rcases hM.1 aC with aC | aC
     ·exact ag r aC
     rw[List.mem_singleton]at aC;subst aC;exact⟨rfl,rfl,Sb,hk,bF⟩)
    refine⟨ys,d,o,eH,e4,.more ?_ l⟩;rw[gi];exact aBk ⟨bC,k' h,b2,⟨by omega,by omega⟩,qb,cg,eG,by simp;omega,by simp;omega,gb (fun d aE=>by simp only[ev,od,or_false]at aE;rcases aE with rfl | rfl | rfl | rfl | rfl<;>exact⟨_,rfl⟩),⟨by omega,by omega⟩,aa⟩
  exact⟨xs,d1,cy,by omega,ag,.last (cn 0) (aBl ⟨bC,o8 h,aa⟩)⟩
theorem Oi(b:List Int)(c:dY)(ai:c.ok b):∃(d:dY) (xs:List az),d.ok b/\xs.length<=5/\(∀r∈xs,Input r)/\b4 prog 100 [.cur (c.e b) (d.e b)] (.vals [.one (.J 5 (xs.map az.e))]):=by
 obtain⟨ys,d,o,eH,e4,l⟩:=Vm b 5 0 0 [] c rfl ai (by omega) (by simp) (by simp);exact⟨d,ys,o,eH,e4,aAM ⟨l,aa⟩⟩
end Go.Proofs.YthfnndblgbjniaaGreat
namespace Go.Proofs.YthfnndblgbjniaaGreat
open Go.Sx Go.RowKit Go.Proofs.Tryz
def tm(k a b:Int):List Node:=[⟨1,0,0,[1]⟩,⟨k,0,0,[2,5]⟩,⟨4,1+a,0,[3]⟩,⟨2,b,0,[4]⟩,⟨7,0,0,[1]⟩,⟨8,0,0,[]⟩]
def lq(k a b c:Int):Nat->List Node
 | 0=>(tm k a b).set 3 ⟨3,1+c,0,[4]⟩
 | 1=>(tm k a b).set 4 ⟨8,0,0,[]⟩
 | 2=>(tm k a b).set 2 ⟨4,1+a,0,[3,4]⟩
 | 3=>(tm k a b++[(⟨8,0,0,[]⟩:Node)]).set 0 ⟨1,0,0,[1,6]⟩
 | _=>tm k a b
structure la (g:bX):Prop where
 nodes:∃(k a b c:Int) (v:Nat),(k=5\/k=6)/\(0<=a/\a<3)/\(0<=b/\b<4)/\(0<=c/\c<3)/\v<=4/\g.nodes=lq k a b c v
 aq:1<=g.aq/\g.aq<=3
 cap:1<=g.cap/\g.cap<=3
theorem la.ok{g:bX}(h:la g):ej g=true:=by
 obtain⟨⟨k,a,b,c,v,hk,ah,aw,ai,bF,aW⟩,hw,ff⟩:=h;obtain⟨nodes,aq,cap⟩:=g;simp only at aW hw ff;have RW:a=0\/a=1\/a=2:=by omega
 have aEX:b=0\/b=1\/b=2\/b=3:=by omega
 have aEY:c=0\/c=1\/c=2:=by omega
 have bt:v=0\/v=1\/v=2\/v=3\/v=4:=by omega
 have aE1:aq=1\/aq=2\/aq=3:=by omega
 have ep:cap=1\/cap=2\/cap=3:=by omega
 have key:∀k∈[(5:Int),6],∀a∈[(0:Int),1,2],∀b∈[(0:Int),1,2,3],∀c∈[(0:Int),1,2],∀v∈[0,1,2,3,4],(!(anyI (jR ⟨lq k a b c v,1,1⟩) 0 (lq k a b c v))&&decide ((lq k a b c v).length<=7)&&decide (1<=(lq k a b c v).length))=true:=by decide +kernel
 have:=key k (by grind) a (by grind) b (by grind) c (by grind) v (by rcases bt with h | h | h | h | h<;>simp[h]);simp only[cu,cj]at this;obtain⟨⟨h1,U⟩,aA⟩:=this;subst aW;have aer:jR ⟨lq k a b c v,aq,cap⟩=jR ⟨lq k a b c v,1,1⟩:=rfl;unfold ej;simp only[cu];rw[aer];refine⟨⟨⟨?_,?_⟩,?_⟩,h1⟩
 ·simp only[ax,cu,cj];omega
 ·simp only[ax,cu,cj];omega
 simp only[ax,cu,cj];omega
theorem Oj(b:List Int)(c:dY)(ai:c.ok b):∃(d:dY) (g:bX),d.ok b/\la g/\b4 prog 99 [.cur (c.e b) (d.e b)] (.vals [.agg g.e]):=by
 obtain⟨d1,ib,cy,h1,bC⟩:=ei b c 3 ai (by omega);obtain⟨d2,iI,ci,U,b2⟩:=ei b d1 3 cy (by omega);obtain⟨d3,x,cI,cg⟩:=AS b d2 3 ci (by omega);obtain⟨d4,jM,fs,aJ,eG⟩:=ei b d3 3 cI (by omega);obtain⟨d5,lm,rO,a7,km⟩:=ei b d4 4 fs (by omega);obtain⟨d6,n6,afz,bw,p2⟩:=ei b d5 3 rO (by omega);obtain⟨d7,n7,afA,b1,tu⟩:=ei b d6 6 afz (by omega);have i1:aL .i64 (1+ib):=⟨by omega,by omega⟩
 have i2:aL .i64 (1+iI):=⟨by omega,by omega⟩
 have i4:aL .i64 (1+jM):=⟨by omega,by omega⟩
 have i6:aL .i64 (1+n6):=⟨by omega,by omega⟩
 have fin:∀(k:Int) (v:Nat) {ds:List (List D)},(k=5\/k=6)->v<=4->nE ds ((lq k jM lm n6 v).map Node.e)->b4 prog 99 [.cur (c.e b) (d7.e b)] (.vals [.agg [.J 4 ds,I (1+ib),I (1+iI)]])->
   ∃(d:dY) (g:bX),d.ok b/\la g/\b4 prog 99 [.cur (c.e b) (d.e b)] (.vals [.agg g.e]):=by
  intro k v ds hk bF bI aC;exact⟨d7,⟨lq k jM lm n6 v,1+ib,1+iI⟩,afA,⟨⟨k,jM,lm,n6,v,hk,aJ,a7,bw,bF,rfl⟩,by grind,by grind⟩,
   aC.fit (.cons (.agg (.cons (.J 4 bI) (lb.refl _))) .nil)⟩
 have f1:∀d,Fit d d:=.refl;by_cases bE:n7=0
 ·cases x
  ·exact fin 5 0 (.inl rfl) (by omega) (by repeat (first | exact .refl _ | constructor)) (aA4 ⟨bC,i1,b2,i2,cg,rfl,eG,i4,km,p2,i6,tu,by simp[bE],by omega,by simp,rfl,aa⟩)
  exact fin 6 0 (.inr rfl) (by omega) (by repeat (first | exact .refl _ | constructor)) (aAZ ⟨bC,i1,b2,i2,cg,rfl,eG,i4,km,p2,i6,tu,by simp[bE],by omega,by simp,rfl,aa⟩)
 by_cases e1:n7=1
 ·cases x
  ·exact fin 5 1 (.inl rfl) (by omega) (by repeat (first | exact .refl _ | constructor)) (aA5 ⟨bC,i1,b2,i2,cg,rfl,eG,i4,km,p2,i6,tu,by simp[bE],by simp[e1],by omega,by simp,rfl,aa⟩)
  exact fin 6 1 (.inr rfl) (by omega) (by repeat (first | exact .refl _ | constructor)) (aA0 ⟨bC,i1,b2,i2,cg,rfl,eG,i4,km,p2,i6,tu,by simp[bE],by simp[e1],by omega,by simp,rfl,aa⟩)
 by_cases e2:n7=2
 ·cases x
  ·exact fin 5 2 (.inl rfl) (by omega) (by repeat (first | exact .refl _ | constructor)) (aA6 ⟨bC,i1,b2,i2,cg,rfl,eG,i4,km,p2,i6,tu,by simp[bE],by simp[e1],by simp[e2],by omega,by simp,rfl,aa⟩)
  exact fin 6 2 (.inr rfl) (by omega) (by repeat (first | exact .refl _ | constructor)) (aA1 ⟨bC,i1,b2,i2,cg,rfl,eG,i4,km,p2,i6,tu,by simp[bE],by simp[e1],by simp[e2],by omega,by simp,rfl,aa⟩)
 by_cases ch:n7=3
 ·cases x
  ·exact fin 5 3 (.inl rfl) (by omega) (by repeat (first | exact .refl _ | constructor)) (aA7 ⟨bC,i1,b2,i2,cg,rfl,eG,i4,km,p2,i6,tu,by simp[bE],by simp[e1],by simp[e2],by simp[ch],by simp,by simp,by omega,by simp,rfl,aa⟩)
  exact fin 6 3 (.inr rfl) (by omega) (by repeat (first | exact .refl _ | constructor)) (aA2 ⟨bC,i1,b2,i2,cg,rfl,eG,i4,km,p2,i6,tu,by simp[bE],by simp[e1],by simp[e2],by simp[ch],by simp,by simp,by omega,by simp,rfl,aa⟩)
 cases x
 ·exact fin 5 4 (.inl rfl) (by omega) (by repeat (first | exact .refl _ | constructor)) (aA8 ⟨bC,i1,b2,i2,cg,rfl,eG,i4,km,p2,i6,tu,by simp[bE],by simp[e1],by simp[e2],by simp[ch],aa⟩)
 exact fin 6 4 (.inr rfl) (by omega) (by repeat (first | exact .refl _ | constructor)) (aA3 ⟨bC,i1,b2,i2,cg,rfl,eG,i4,km,p2,i6,tu,by simp[bE],by simp[e1],by simp[e2],by simp[ch],aa⟩)
def GQ(p:b7):Prop:=(1<=p.kind/\p.kind<=7)/\(0<=p.a/\p.a<3)/\(0<=p.b/\p.b<3)
theorem aCp(b:List Int)(c:dY)(ai:c.ok b):∃(d:dY) (p:b7),d.ok b/\GQ p/\b4 prog 149 [.cur (c.e b) (d.e b)] (.vals [.agg p.e]):=by
 obtain⟨d1,k,cy,h1,bC⟩:=ni b c [1,1,1,2,3,3,3,4,4,5,6,6,7] ai (by simp);obtain⟨d2,a,ci,U,b2⟩:=ei b d1 3 cy (by omega);have hk:1<=k/\k<=7:=by
  simp only[ev,od,or_false]at h1;omega
 by_cases dS:k=4
 ·obtain⟨d3,m,cI,aA,cg⟩:=ei b d2 2 ci (by omega);have qB:aL .i64 (a+1):=⟨by omega,by omega⟩
  have pC:aL .i64 (a+1+m):=⟨by omega,by omega⟩
  exact⟨d3,⟨k,a,(a+1+m).tmod 3⟩,cI,⟨hk,U,Int.tmod_nonneg _ (by omega),Int.tmod_lt_of_pos _ (by omega)⟩,aAO ⟨bC,b2,by simp[dS],aAN ⟨qB,cg,pC,by decide,aa⟩,aa⟩⟩
 by_cases hz:k=5
 ·obtain⟨d3,m,cI,aA,cg⟩:=ei b d2 2 ci (by omega);have qB:aL .i64 (a+1):=⟨by omega,by omega⟩
  have pC:aL .i64 (a+1+m):=⟨by omega,by omega⟩
  exact⟨d3,⟨k,a,(a+1+m).tmod 3⟩,cI,⟨hk,U,Int.tmod_nonneg _ (by omega),Int.tmod_lt_of_pos _ (by omega)⟩,aAQ ⟨bC,b2,by simp[dS],by simp[hz],aAP ⟨qB,cg,pC,by decide,aa⟩,aa⟩⟩
 exact⟨d2,⟨k,a,0⟩,ci,⟨hk,U,by grind⟩,aAR ⟨bC,b2,by simp[dS],by simp[hz],aa⟩⟩
theorem ac8(p:b7):Flat [p.e]:=gb fun d aE=>by
 simp only[b7.e,ev,od,or_false]at aE;grind
theorem Vn(b:List Int)(m:Nat)(hm:m<=1000):∀(n i:Nat) (xs:List b7) (c:dY),i+n=m+1->c.ok b->xs.length<=i->(∀p∈xs,GQ p)->
  ∃(ys:List b7) (d:dY),d.ok b/\ys.length<=m+1/\(∀p∈ys,GQ p)/\c8 prog (ap f102 0) (CM (b.map h6) m i (xs.map b7.e) c.i c.h) (.exit 0) (Og (b.map h6) (ys.map b7.e) d.i d.h)
 | n,i,xs,c,iU,ai,al,ag=>by
  obtain⟨d1,k,cy,hk,bC⟩:=ei b c ((m:Int)+1) ai (by omega);by_cases h:(i:Int)<k
  ·match n with
   | 0=>omega
   | n+1=>
    obtain⟨d2,p,ci,hp,b2⟩:=aCp b d1 cy;obtain⟨ys,d,o,eH,e4,l⟩:=Vn b m hm n (i+1) (xs++[p]) d2 (by omega) ci (by simp;omega) (fun z bb=>by
     grind)
    refine⟨ys,d,o,eH,e4,.more ?_ l⟩;rw[gi];exact aAS ⟨⟨by omega,by omega⟩,bC,k' h,b2,by simp;omega,by simp;omega,ac8 p,⟨by omega,by omega⟩,aa⟩
  exact⟨xs,d1,cy,by omega,ag,.last (cn 0) (aAT ⟨⟨by omega,by omega⟩,bC,o8 h,aa⟩)⟩
theorem UO(b:List Int)(c:dY)(m:Nat)(hm:m<=1000)(ai:c.ok b):∃(d:dY) (cz:List b7),d.ok b/\cz.length<=m+1/\(∀p∈cz,GQ p)/\b4 prog 102 [.cur (c.e b) (d.e b),.ro (.one (I m))] (.vals [.one (.J 3 (cz.map b7.e))]):=by
 obtain⟨ys,d,o,eH,e4,l⟩:=Vn b m hm (m+1) 0 [] c (by omega) ai (by simp) (by simp);exact⟨d,ys,o,eH,e4,aAU ⟨l,aa⟩⟩
end Go.Proofs.YthfnndblgbjniaaGreat
namespace Go.Proofs.YthfnndblgbjniaaGreat
open Go.Sx Go.RowKit Go.Proofs.Tryz
theorem la.size{g:bX}(h:la g):g.sz<=100:=by
 obtain⟨⟨k,a,b,c,v,hk,ah,aw,ai,bF,aW⟩,hw,ff⟩:=h;obtain⟨nodes,aq,cap⟩:=g;simp only at aW;subst aW;have e:(⟨lq k a b c v,aq,cap⟩:bX).sz=fw Node.sz (lq k a b c v):=rfl;rw[e];have bt:v=0\/v=1\/v=2\/v=3\/v=4:=by omega
 rcases bt with rfl | rfl | rfl | rfl | rfl<;>simp[fw,lq,tm,Node.sz]
theorem Input.ra{r:az}(h:Input r):ta r=false:=by
 obtain⟨h1,U,aA,aJ,a7⟩:=h;have ok:eO r=true:=by
  simp only[eO,ig,fI,ax,cu,cj,h1,U];omega
 simp[ta,ok,h1,U]
theorem GR{g:bX}{xs:List az}(ay:la g)(al:xs.length<=6)(ag:∀r∈xs,Input r):l9 g xs=true:=
 AW.2 ⟨ay.ok,by omega,fx.2 fun r aC=>by simp[(ag r aC).ra]⟩
end Go.Proofs.YthfnndblgbjniaaGreat
namespace Go.Proofs.YthfnndblgbjniaaGreat
open Go.Sx Go.RowKit Go.Proofs.Tryz
def Fair(r:az):Prop:=(0<=r.op/\r.op<5)/\(0<=r.bl.ba/\r.bl.ba<4)/\(0<=r.bl.dc/\r.bl.dc<5)/\(0<=r.key/\r.key<12)/\(0<=r.val/\r.val<40)
theorem xu{n:Int}(h1:-9223372036854775808<=n)(U:n<=9223372036854775807):aL .i64 n:=⟨h1,U⟩
theorem Fair.wf{r:az}(h:Fair r):r.wf:=by
 obtain⟨h1,U,aA,aJ,a7⟩:=h;exact⟨xu (by omega) (by omega),⟨xu (by omega) (by omega),xu (by omega) (by omega)⟩,xu (by omega) (by omega),xu (by omega) (by omega)⟩
theorem UP(b:List Int)(c:dY)(ai:c.ok b):∃(d:dY) (s:gQ),d.ok b/\((0<=s.ba/\s.ba<4)/\(0<=s.dc/\s.dc<5))/\b4 prog 158 [.cur (c.e b) (d.e b)] (.vals [.agg s.e]):=by
 obtain⟨d1,x,cy,h1,bC⟩:=ei b c 4 ai (by omega);obtain⟨d2,y,ci,U,b2⟩:=ei b d1 5 cy (by omega);exact⟨d2,⟨x,y⟩,ci,⟨h1,U⟩,aBF ⟨bC,b2,aa⟩⟩
theorem CN{n:Int}{xs:List Int}(h:n∈xs)(ag:(xs.all fun x=>decide (-9223372036854775808<=x)&&decide (x<=9223372036854775807))=true):aL .i64 n:=by
 have:=gn.1 ag n h;simp only[cu,cj]at this;exact this
theorem aCq(b:List Int)(c:dY)(ai:c.ok b):∃(d:dY) (s:gQ),d.ok b/\s.wf/\b4 prog 157 [.cur (c.e b) (d.e b)] (.vals [.agg s.e]):=by
 obtain⟨d1,s,cy,⟨h1,U⟩,bC⟩:=UP b c ai;obtain⟨d2,k,ci,aA,b2⟩:=ei b d1 10 cy (by omega);have w1:aL .i64 s.ba:=xu (by omega) (by omega);have ik:aL .i64 s.dc:=xu (by omega) (by omega);by_cases bE:k=0
 ·obtain⟨d3,x,cI,aJ,cg⟩:=ni b d2 [-1,3,4,9223372036854775807] ci (by simp);exact⟨d3,⟨x,s.dc⟩,cI,⟨CN aJ (by decide),ik⟩,aBG ⟨bC,b2,by simp[bE],cg,aa⟩⟩
 by_cases e1:k=1
 ·obtain⟨d3,x,cI,aJ,cg⟩:=ni b d2 [-1,5,6,7,-9223372036854775808] ci (by simp);exact⟨d3,⟨s.ba,x⟩,cI,⟨w1,CN aJ (by decide)⟩,aBH ⟨bC,b2,by simp[bE],by simp[e1],cg,aa⟩⟩
 exact⟨d2,s,ci,⟨w1,ik⟩,aBI ⟨bC,b2,by simp[bE],by simp[e1],aa⟩⟩
theorem GU(b:List Int)(c:dY)(ai:c.ok b):∃(d:dY) (r:az),d.ok b/\Fair r/\b4 prog 109 [.cur (c.e b) (d.e b)] (.vals [.agg r.e]):=by
 obtain⟨d1,x,cy,h1,bC⟩:=ei b c 5 ai (by omega);obtain⟨d2,s,ci,⟨U,aA⟩,b2⟩:=UP b d1 cy;obtain⟨d3,k,cI,aJ,cg⟩:=ei b d2 12 ci (by omega);obtain⟨d4,v,fs,a7,eG⟩:=ei b d3 40 cI (by omega);exact⟨d4,⟨x,s,k,v⟩,fs,⟨h1,U,aA,aJ,a7⟩,aBJ ⟨bC,b2,cg,eG,aa⟩⟩
theorem UQ(b:List Int)(c:dY)(ai:c.ok b):∃(d:dY) (r:az),d.ok b/\r.wf/\b4 prog 108 [.cur (c.e b) (d.e b)] (.vals [.agg r.e]):=by
 obtain⟨d1,r,cy,aC,bC⟩:=GU b c ai;obtain⟨w1,ik,Qm,Qn⟩:=aC.wf;obtain⟨d2,k,ci,aA,b2⟩:=ei b d1 12 cy (by omega);by_cases bE:k=0
 ·obtain⟨d3,x,cI,aJ,cg⟩:=ni b d2 [-1,7,8] ci (by simp);exact⟨d3,⟨x,r.bl,r.key,r.val⟩,cI,⟨CN aJ (by decide),ik,Qm,Qn⟩,aBK ⟨bC,b2,by simp[bE],cg,aa⟩⟩
 by_cases e1:k=1
 ·obtain⟨d3,s,cI,aJ,cg⟩:=aCq b d2 ci;exact⟨d3,⟨r.op,s,r.key,r.val⟩,cI,⟨w1,aJ,Qm,Qn⟩,aBL ⟨bC,b2,by simp[bE],by simp[e1],cg,aa⟩⟩
 by_cases e2:k=2
 ·obtain⟨d3,x,cI,aJ,cg⟩:=ni b d2 [-1,99,100,-9223372036854775808] ci (by simp);exact⟨d3,⟨r.op,r.bl,x,r.val⟩,cI,⟨w1,ik,CN aJ (by decide),Qn⟩,aAW ⟨bC,b2,by simp[bE],by simp[e1],by simp[e2],cg,aa⟩⟩
 by_cases ch:k=3
 ·obtain⟨d3,x,cI,aJ,cg⟩:=ni b d2 [-1,999,1000,9223372036854775807] ci (by simp);exact⟨d3,⟨r.op,r.bl,r.key,x⟩,cI,⟨w1,ik,Qm,CN aJ (by decide)⟩,aAX ⟨bC,b2,by simp[bE],by simp[e1],by simp[e2],by simp[ch],cg,aa⟩⟩
 exact⟨d2,r,ci,aC.wf,aAY ⟨bC,b2,by simp[bE],by simp[e1],by simp[e2],by simp[ch],aa⟩⟩
theorem JQ(r:az):Flat [r.e]:=gb fun d aE=>by
 simp only[az.e,ev,od,or_false]at aE;grind
