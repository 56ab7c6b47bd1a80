import Derived.Test.YtdchjefneblpgaaT5
import Derived.Test.YtdchjefneblpgaaR35
import Derived.Test.YtdchjefneblpgaaGD
import Derived.Test.YtdchjefneblpgaaC5
import Derived.Test.YtdchjefneblpgaaP43
import Derived.Test.YtdchjefneblpgaaGY
set_option linter.unusedVariables false
set_option linter.unusedSimpArgs false
namespace Go.Proofs.Ytdchjefneblpgaa
open Go.Sx Go.RowKit Go.Proofs.Try
def hg(n:Int):List D:=[.v (.int .u8 n)]
structure dV where
 i:Int
 h:Int
def dV.e(b:List Int)(c:dV):List D:=[.aa 1 (b.map hg),I c.i,I c.h]
def Bytes(b:List Int):Prop:=b.length<=8388608/\∀x∈b,0<=x/\x<=255
def dV.ok(b:List Int)(c:dV):Prop:=Bytes b/\0<=c.i/\c.i<=b.length
theorem ad6{P:Program}{t:TypeId}{ds:List D}(hu:P.underlying t=some (.int .u8))(h:hT P t ds):∃n,ds=hg n/\0<=n/\n<=255:=by
 have U:∃n,ds=[.v (.int .u8 n)]/\(Lit.int .u8 n).wf=true:=by cases h<;>simp_all
 obtain⟨n,e,hw⟩:=U;refine⟨n,e,?_⟩;simp[Lit.wf]at hw;have ax:IntKind.u8.min=0:=rfl;rw[ax]at hw;exact hw
theorem acq:prog.cellsOf 5=1:=by kernel_rfl
theorem acr{ds:List D}(h:hT prog 22 ds):∃xs:List Int,ds=[.aa 1 (xs.map hg)]/\(xs.length:Int)<=9223372036854775807/\∀a∈xs,(fun n=>0<=n/\n<=255) a:=
 Sm hg (fun n=>0<=n/\n<=255) Try.underlying22 acq (fun ds h=>ad6 Try.underlying5 h) h
theorem acs{bT:b7}(h:xz prog 22 bT):∃xs:List Int,bT=.one (.aa 1 (xs.map hg))/\(xs.length:Int)<=9223372036854775807/\∀a∈xs,(fun n=>0<=n/\n<=255) a:=by
 cases bT with
 | agg ds=>have:=h.2;simp[o3,Try.underlying22]at this
 | one d=>
  obtain⟨x,e,ae⟩:=acr h.1;obtain rfl:=(Ox e).1;exact⟨x,rfl,ae⟩
theorem MQ{P:Program}(a:Int)(n:Nat):∃m:Int,∀t x y,jN P .shr t x y (.int .i64 a) (.int .u64 (n:Int)) (.int .i64 m):=⟨_,fun _ _ _=>abC⟩
theorem acu{P:Program}(a b:Int):∃m:Int,∀t x y,jN P .xor t x y (.int .i64 a) (.int .i64 b) (.int .i64 m):=⟨_,fun _ _ _=>abD⟩
theorem E'{P:Program}(a:Int)(k:Nat)(aT:k<2 ^ 62):∃m:Int,(0<=m/\m<=k)/\∀t x y,jN P .and t x y (.int .i64 a) (.int .i64 (k:Int)) (.int .i64 m):=⟨_,abF a k aT,fun _ _ _=>abE⟩
theorem MR(b:List Int)(ah:Bytes b):∀(n i:Nat) (h:Int),i+n=b.length->0<=h/\h<=1073741823->∃pe,dk prog (aF f40 0) (uv (b.map hg) i h) (.exit 0) (zQ (b.map hg) pe)
 | 0,i,h,hi,bq=>⟨h,.last (di 0) (aa6 ⟨by rw[mG,br];omega,aj⟩)⟩
 | n+1,i,h,hi,bq=>by
  have ak:=ah.1;obtain⟨x,ae⟩:=cT (xs:=b) (i:=i) (by omega);have ah:=ah.2 x (h7 ae);by_cases aJ:(i:Int)<4000
  ·obtain⟨m,hm,r⟩:=E' (P:=prog) (h*131+x+7) 1073741823 (by decide);obtain⟨pe,l⟩:=MR b ‹Bytes b› n (i+1) m (by omega) hm;exact⟨pe,.more (abG ⟨dr (by omega),p9 aJ,⟨by omega,by omega⟩,c1,dh (by omega),c2 hg ae,⟨by omega,by omega⟩,⟨by omega,by omega⟩,⟨by omega,by omega⟩,r _ _ _,⟨by omega,by omega⟩,aj⟩) l⟩
  exact⟨h,.last (di 0) (aa5 ⟨dr (by omega),oZ aJ,aj⟩)⟩
theorem MS(b:List Int)(ah:Bytes b):∃c:dV,c.ok b/\cv prog 40 [.ro (.one (.aa 1 (b.map hg)))] (.gW [some 0,none,none] (c.e b)):=by
 have ak:=ah.1;obtain⟨pe,l⟩:=MR b ah b.length 0 (94701+(↑(b.map hg).length:Int)) (by omega) ⟨by omega,by simp;omega⟩;exact⟨⟨0,pe⟩,⟨ah,by dsimp only;omega,by dsimp only;omega⟩,aa7 ⟨⟨by omega,by simp;omega⟩,l,aj⟩⟩
theorem zS(b:List Int)(c:dV)(ai:c.ok b):∃(d:dV) (n:Int),d.ok b/\(0<=n/\n<=255)/\cv prog 70 [.cur (c.e b) (d.e b)] (.vals [.one (I n)]):=by
 obtain⟨⟨J,U⟩,ax,aJ⟩:=ai;obtain⟨vZ,cC⟩:=MQ (P:=prog) (IntKind.i64.wrap (IntKind.i64.wrap (c.h*6364136223846793005)+1442695040888963407)) 33;obtain⟨ow,eo⟩:=MQ (P:=prog) (IntKind.i64.wrap (IntKind.i64.wrap (c.h*6364136223846793005)+1442695040888963407)) 45;obtain⟨tI,iH⟩:=acu (P:=prog) vZ ow;obtain⟨n6,m6,jv⟩:=E' (P:=prog) tI 255 (by decide);by_cases hi:c.i<b.length
 ·obtain⟨x,ae⟩:=cT (xs:=b) (i:=c.i.toNat) (by omega);have ah:=U x (h7 ae);obtain⟨Rj,m8,adM⟩:=E' (P:=prog) (IntKind.i64.wrap (n6+IntKind.i64.wrap x)) 255 (by decide);exact⟨⟨c.i+1,IntKind.i64.wrap (IntKind.i64.wrap (c.h*6364136223846793005)+1442695040888963407)⟩,Rj,⟨⟨J,U⟩,by dsimp only;omega,by dsimp only;omega⟩,m8,aa8 ⟨cC _ _ _,eo _ _ _,iH _ _ _,jv _ _ _,by rw[cF,br];exact hi,ax,by rw[br];exact hi,by rw[dG,ae];rfl,adM _ _ _,⟨by omega,by omega⟩,aj⟩⟩
 exact⟨⟨c.i,IntKind.i64.wrap (IntKind.i64.wrap (c.h*6364136223846793005)+1442695040888963407)⟩,n6,⟨⟨J,U⟩,ax,aJ⟩,m6,aa9 ⟨cC _ _ _,eo _ _ _,iH _ _ _,jv _ _ _,by rw[mG,br];exact hi,aj⟩⟩
theorem eu(b:List Int)(c:dV)(k:Int)(ai:c.ok b)(aT:1<=k/\k<=1000000):∃(d:dV) (n:Int),d.ok b/\(0<=n/\n<k)/\cv prog 48 [.cur (c.e b) (d.e b),.ro (.one (I k))] (.vals [.one (I n)]):=by
 have md:∀m:Int,0<=m->0<=m.tmod k/\m.tmod k<k:=fun m hm=>⟨Int.tmod_nonneg _ hm,Int.tmod_lt_of_pos m (by omega)⟩
 obtain⟨d1,ov,cu,fU,bO⟩:=zS b c ai;by_cases h:k<=256
 ·exact⟨d1,_,cu,md ov fU.1,aba ⟨oZ (by omega),p9 h,bO,by omega,aj⟩⟩
 obtain⟨d2,pH,cc,fa,b6⟩:=zS b d1 cu;obtain⟨d3,vZ,c7,o5,cC⟩:=zS b d2 cc;obtain⟨d4,ow,gw,rD,eo⟩:=zS b d3 c7;exact⟨d4,_,gw,md _ (by omega),abb ⟨oZ (by omega),oZ h,bO,b6,cC,eo,⟨by omega,by omega⟩,⟨by omega,by omega⟩,⟨by omega,by omega⟩,⟨by omega,by omega⟩,⟨by omega,by omega⟩,⟨by omega,by omega⟩,by omega,aj⟩⟩
theorem uw(b:List Int)(c:dV)(k:Int)(ai:c.ok b)(aT:1<=k/\k<=1000000):∃(d:dV) (x:Bool),d.ok b/\cv prog 42 [.cur (c.e b) (d.e b),.ro (.one (I k))] (.vals [.one (B x)]):=by
 obtain⟨d,n,o,_,r⟩:=eu b c k ai aT;exact⟨d,_,o,abd ⟨r,aj⟩⟩
theorem mo(b:List Int)(c:dV)(xs:List Int)(ai:c.ok b)(aT:1<=xs.length/\xs.length<=1000):∃(d:dV) (n:Int),d.ok b/\n∈xs/\cv prog 66 [.cur (c.e b) (d.e b),.ro (.one (.aa 1 (xs.map aY)))] (.vals [.one (I n)]):=by
 obtain⟨d,n,o,ah,r⟩:=eu b c (xs.length:Int) ai (by omega);obtain⟨x,ae⟩:=cT (xs:=xs) (i:=n.toNat) (by omega);refine⟨d,x,o,h7 ae,abe ⟨?_,ah.1,by rw[br];exact ah.2,by rw[dG,ae];rfl,aj⟩⟩;rw[br];exact r
end Go.Proofs.Ytdchjefneblpgaa
namespace Go.Proofs.Ytdchjefneblpgaa
open Go.Sx Go.RowKit Go.Proofs.Try
def Ro(g:bz)(xs:List aQ)(w e:Int):List aQ:=xs.filter fun r=>r.bl.aV==e&&sk r.key g.bg==w
def Rp(g:bz)(xs:List aQ)(w:Int)(n:Nat):List aQ:=(List.range n).flatMap fun e=>Ro g xs w (e:Nat)
def own(g:bz)(xs:List aQ)(w:Int):List aQ:=Rp g xs w 4
end Go.Proofs.Ytdchjefneblpgaa
namespace Go.Proofs.Ytdchjefneblpgaa
open Go.Sx Go.RowKit Go.Proofs.Try
def Input(r:aQ):Prop:=r.op=0/\r.bl.dE=0/\(0<=r.bl.aV/\r.bl.aV<=2)/\(0<=r.key/\r.key<12)/\(0<=r.val/\r.val<40)
theorem MT(b:List Int):∀(n i:Nat) (e:Int) (xs:List aQ) (c:dV),i+n=5->c.ok b->(0<=e/\e<=2)->xs.length<=i->(∀r∈xs,Input r)->
  ∃(ys:List aQ) (d:dV),d.ok b/\ys.length<=5/\(∀r∈ys,Input r)/\dk prog (aF f46 0) (wg (b.map hg) i e (xs.map aQ.e) c.i c.h) (.exit 0) (E9 (b.map hg) (ys.map aQ.e) d.i d.h)
 | n,i,e,xs,c,l3,ai,he,ak,ae=>by
  obtain⟨d1,m,cu,ah,bO⟩:=eu b c 6 ai (by omega);by_cases h:(i:Int)<m
  ·match n with
   | 0=>omega
   | n+1=>
    obtain⟨d2,a,cc,aC,b6⟩:=eu b d1 2 cu (by omega);obtain⟨d3,k,c7,aT,cC⟩:=eu b d2 12 cc (by omega);obtain⟨d4,v,gw,a8,eo⟩:=eu b d3 40 c7 (by omega);have lP:=Uu (e+a) 0 2;have Hq:0<=r8 (e+a) 0 2/\r8 (e+a) 0 2<=2:=by
     unfold r8;simp only[show ¬(2:Int)<0 by omega,mF];split<;>(try split)<;>omega
    obtain⟨ys,d,o,jx,iZ,l⟩:=MT b n (i+1) (r8 (e+a) 0 2) (xs++[⟨0,⟨r8 (e+a) 0 2,0⟩,k,v⟩]) d4 (by omega) gw Hq (by simp;omega) (fun r ar=>by
     rcases hA.1 ar with ar | ar
     ·exact ae r ar
     rw[List.mem_singleton]at ar;subst ar;exact⟨rfl,rfl,Hq,aT,a8⟩)
    refine⟨ys,d,o,jx,iZ,.more ?_ l⟩;rw[kg];exact acn ⟨bO,p9 h,b6,⟨by omega,by omega⟩,lP,cC,eo,by simp;omega,by simp;omega,dt (fun d ay=>by simp only[dj,nZ,or_false]at ay;rcases ay with rfl | rfl | rfl | rfl | rfl<;>exact⟨_,rfl⟩),⟨by omega,by omega⟩,aj⟩
  exact⟨xs,d1,cu,by omega,ae,.last (di 0) (aco ⟨bO,oZ h,aj⟩)⟩
theorem MU(b:List Int)(c:dV)(ai:c.ok b):∃(d:dV) (xs:List aQ),d.ok b/\xs.length<=5/\(∀r∈xs,Input r)/\cv prog 46 [.cur (c.e b) (d.e b)] (.vals [.one (.aa 5 (xs.map aQ.e))]):=by
 obtain⟨ys,d,o,jx,iZ,l⟩:=MT b 5 0 0 [] c rfl ai (by omega) (by simp) (by simp);exact⟨d,ys,o,jx,iZ,acp ⟨l,aj⟩⟩
end Go.Proofs.Ytdchjefneblpgaa
namespace Go.Proofs.Ytdchjefneblpgaa
open Go.Sx Go.RowKit Go.Proofs.Try
def ux(k a b:Int):List Node:=[⟨1,0,0,[1]⟩,⟨k,0,0,[2,5]⟩,⟨4,1+a,0,[3]⟩,⟨2,b,0,[4]⟩,⟨7,0,0,[1]⟩,⟨8,0,0,[]⟩]
def mq(k a b c:Int):Nat->List Node
 | 0=>(ux k a b).set 3 ⟨3,1+c,0,[4]⟩
 | 1=>(ux k a b).set 4 ⟨8,0,0,[]⟩
 | 2=>(ux k a b).set 2 ⟨4,1+a,0,[3,4]⟩
 | 3=>(ux k a b++[(⟨8,0,0,[]⟩:Node)]).set 0 ⟨1,0,0,[1,6]⟩
 | _=>ux k a b
structure k3 (g:bz):Prop where
 nodes:∃(k a b c:Int) (v:Nat),(k=5\/k=6)/\(0<=a/\a<3)/\(0<=b/\b<4)/\(0<=c/\c<3)/\v<=4/\g.nodes=mq k a b c v
 bg:1<=g.bg/\g.bg<=3
 cap:1<=g.cap/\g.cap<=3
theorem k3.ok{g:bz}(h:k3 g):cz g=true:=by
 obtain⟨⟨k,a,b,c,v,aT,aC,ah,ai,a8,aR⟩,hw,e4⟩:=h;obtain⟨nodes,bg,cap⟩:=g;simp only at aR hw e4;have ib:a=0\/a=1\/a=2:=by omega
 have u1:b=0\/b=1\/b=2\/b=3:=by omega
 have O1:c=0\/c=1\/c=2:=by omega
 have aW:v=0\/v=1\/v=2\/v=3\/v=4:=by omega
 have aeW:bg=1\/bg=2\/bg=3:=by omega
 have ep:cap=1\/cap=2\/cap=3:=by omega
 have key:∀k∈[(5:Int),6],∀a∈[(0:Int),1,2],∀b∈[(0:Int),1,2,3],∀c∈[(0:Int),1,2],∀v∈[0,1,2,3,4],(!(anyI (gM ⟨mq k a b c v,1,1⟩) 0 (mq k a b c v))&&decide ((mq k a b c v).length<=7)&&decide (1<=(mq k a b c v).length))=true:=by decide +kernel
 have:=key k (by rcases aT with h | h<;>simp[h]) a (by rcases ib with h | h | h<;>simp[h]) b (by rcases u1 with h | h | h | h<;>simp[h]) c (by rcases O1 with h | h | h<;>simp[h]) v (by rcases aW with h | h | h | h | h<;>simp[h]);simp only[b0,cF]at this;obtain⟨⟨J,U⟩,ax⟩:=this;subst aR;have Qq:gM ⟨mq k a b c v,bg,cap⟩=gM ⟨mq k a b c v,1,1⟩:=rfl;unfold cz;simp only[b0];rw[Qq];refine⟨⟨⟨?_,?_⟩,?_⟩,J⟩
 ·simp only[af,b0,cF];omega
 ·simp only[af,b0,cF];omega
 simp only[af,b0,cF];omega
theorem MV(b:List Int)(c:dV)(ai:c.ok b):∃(d:dV) (g:bz),d.ok b/\k3 g/\cv prog 44 [.cur (c.e b) (d.e b)] (.vals [.agg g.e]):=by
 obtain⟨d1,ov,cu,J,bO⟩:=eu b c 3 ai (by omega);obtain⟨d2,pH,cc,U,b6⟩:=eu b d1 3 cu (by omega);obtain⟨d3,x,c7,cC⟩:=uw b d2 3 cc (by omega);obtain⟨d4,ow,gw,aJ,eo⟩:=eu b d3 3 c7 (by omega);obtain⟨d5,tI,r5,a1,iH⟩:=eu b d4 4 gw (by omega);obtain⟨d6,n6,wa,bt,jv⟩:=eu b d5 3 r5 (by omega);obtain⟨d7,v7,wb,bQ,iX⟩:=eu b d6 6 wa (by omega);have i1:ap .i64 (1+ov):=⟨by omega,by omega⟩
 have i2:ap .i64 (1+pH):=⟨by omega,by omega⟩
 have i4:ap .i64 (1+ow):=⟨by omega,by omega⟩
 have i6:ap .i64 (1+n6):=⟨by omega,by omega⟩
 have fin:∀(k:Int) (v:Nat) {ds:List (List D)},(k=5\/k=6)->v<=4->jV ds ((mq k ow tI n6 v).map Node.e)->cv prog 44 [.cur (c.e b) (d7.e b)] (.vals [.agg [.aa 4 ds,I (1+ov),I (1+pH)]])->
   ∃(d:dV) (g:bz),d.ok b/\k3 g/\cv prog 44 [.cur (c.e b) (d.e b)] (.vals [.agg g.e]):=by
  intro k v ds aT a8 bn ar;exact⟨d7,⟨mq k ow tI n6 v,1+ov,1+pH⟩,wb,⟨⟨k,ow,tI,n6,v,aT,aJ,a1,bt,a8,rfl⟩,by dsimp only;omega,by dsimp only;omega⟩,
   ar.fit (.cons (.agg (.cons (.aa 4 bn) (hQ.refl _))) .nil)⟩
 have f1:∀d,Fit d d:=.refl;by_cases b8:v7=0
 ·cases x
  ·exact fin 5 0 (.inl rfl) (by omega) (by repeat (first | exact .refl _ | constructor)) (acY ⟨bO,i1,b6,i2,cC,rfl,eo,i4,iH,jv,i6,iX,by simp[b8],by omega,by simp,rfl,aj⟩)
  exact fin 6 0 (.inr rfl) (by omega) (by repeat (first | exact .refl _ | constructor)) (acT ⟨bO,i1,b6,i2,cC,rfl,eo,i4,iH,jv,i6,iX,by simp[b8],by omega,by simp,rfl,aj⟩)
 by_cases aK:v7=1
 ·cases x
  ·exact fin 5 1 (.inl rfl) (by omega) (by repeat (first | exact .refl _ | constructor)) (acZ ⟨bO,i1,b6,i2,cC,rfl,eo,i4,iH,jv,i6,iX,by simp[b8],by simp[aK],by omega,by simp,rfl,aj⟩)
  exact fin 6 1 (.inr rfl) (by omega) (by repeat (first | exact .refl _ | constructor)) (acU ⟨bO,i1,b6,i2,cC,rfl,eo,i4,iH,jv,i6,iX,by simp[b8],by simp[aK],by omega,by simp,rfl,aj⟩)
 by_cases aO:v7=2
 ·cases x
  ·exact fin 5 2 (.inl rfl) (by omega) (by repeat (first | exact .refl _ | constructor)) (ac0 ⟨bO,i1,b6,i2,cC,rfl,eo,i4,iH,jv,i6,iX,by simp[b8],by simp[aK],by simp[aO],by omega,by simp,rfl,aj⟩)
  exact fin 6 2 (.inr rfl) (by omega) (by repeat (first | exact .refl _ | constructor)) (acV ⟨bO,i1,b6,i2,cC,rfl,eo,i4,iH,jv,i6,iX,by simp[b8],by simp[aK],by simp[aO],by omega,by simp,rfl,aj⟩)
 by_cases b2:v7=3
 ·cases x
  ·exact fin 5 3 (.inl rfl) (by omega) (by repeat (first | exact .refl _ | constructor)) (ac1 ⟨bO,i1,b6,i2,cC,rfl,eo,i4,iH,jv,i6,iX,by simp[b8],by simp[aK],by simp[aO],by simp[b2],by simp,by simp,by omega,by simp,rfl,aj⟩)
  exact fin 6 3 (.inr rfl) (by omega) (by repeat (first | exact .refl _ | constructor)) (acW ⟨bO,i1,b6,i2,cC,rfl,eo,i4,iH,jv,i6,iX,by simp[b8],by simp[aK],by simp[aO],by simp[b2],by simp,by simp,by omega,by simp,rfl,aj⟩)
 cases x
 ·exact fin 5 4 (.inl rfl) (by omega) (by repeat (first | exact .refl _ | constructor)) (ac2 ⟨bO,i1,b6,i2,cC,rfl,eo,i4,iH,jv,i6,iX,by simp[b8],by simp[aK],by simp[aO],by simp[b2],aj⟩)
 exact fin 6 4 (.inr rfl) (by omega) (by repeat (first | exact .refl _ | constructor)) (acX ⟨bO,i1,b6,i2,cC,rfl,eo,i4,iH,jv,i6,iX,by simp[b8],by simp[aK],by simp[aO],by simp[b2],aj⟩)
end Go.Proofs.Ytdchjefneblpgaa
namespace Go.Proofs.Ytdchjefneblpgaa
open Go.Sx Go.RowKit Go.Proofs.Try
end Go.Proofs.Ytdchjefneblpgaa
namespace Go.Proofs.Ytdchjefneblpgaa
open Go.Sx Go.RowKit Go.Proofs.Try
theorem k3.size{g:bz}(h:k3 g):g.sz<=100:=by
 obtain⟨⟨k,a,b,c,v,aT,aC,ah,ai,a8,aR⟩,hw,e4⟩:=h;obtain⟨nodes,bg,cap⟩:=g;simp only at aR;subst aR;have e:(⟨mq k a b c v,bg,cap⟩:bz).sz=hx Node.sz (mq k a b c v):=rfl;rw[e];have aW:v=0\/v=1\/v=2\/v=3\/v=4:=by omega
 rcases aW with rfl | rfl | rfl | rfl | rfl<;>simp[hx,mq,ux,Node.sz]
end Go.Proofs.Ytdchjefneblpgaa
namespace Go.Proofs.Ytdchjefneblpgaa
open Go.Sx Go.RowKit Go.Proofs.Try
def Fair(r:aQ):Prop:=(0<=r.op/\r.op<5)/\(0<=r.bl.aV/\r.bl.aV<4)/\(0<=r.bl.dE/\r.bl.dE<5)/\(0<=r.key/\r.key<12)/\(0<=r.val/\r.val<40)
theorem r0{n:Int}(J:-9223372036854775808<=n)(U:n<=9223372036854775807):ap .i64 n:=⟨J,U⟩
theorem Fair.wf{r:aQ}(h:Fair r):r.wf:=by
 obtain⟨J,U,ax,aJ,a1⟩:=h;exact⟨r0 (by omega) (by omega),⟨r0 (by omega) (by omega),r0 (by omega) (by omega)⟩,r0 (by omega) (by omega),r0 (by omega) (by omega)⟩
theorem MW(b:List Int)(c:dV)(ai:c.ok b):∃(d:dV) (s:fl),d.ok b/\((0<=s.aV/\s.aV<4)/\(0<=s.dE/\s.dE<5))/\cv prog 79 [.cur (c.e b) (d.e b)] (.vals [.agg s.e]):=by
 obtain⟨d1,x,cu,J,bO⟩:=eu b c 4 ai (by omega);obtain⟨d2,y,cc,U,b6⟩:=eu b d1 5 cu (by omega);exact⟨d2,⟨x,y⟩,cc,⟨J,U⟩,abf ⟨bO,b6,aj⟩⟩
theorem wh{n:Int}{xs:List Int}(h:n∈xs)(ae:(xs.all fun x=>decide (-9223372036854775808<=x)&&decide (x<=9223372036854775807))=true):ap .i64 n:=by
 have:=eP.1 ae n h;simp only[b0,cF]at this;exact this
theorem acv(b:List Int)(c:dV)(ai:c.ok b):∃(d:dV) (s:fl),d.ok b/\s.wf/\cv prog 69 [.cur (c.e b) (d.e b)] (.vals [.agg s.e]):=by
 obtain⟨d1,s,cu,⟨J,U⟩,bO⟩:=MW b c ai;obtain⟨d2,k,cc,ax,b6⟩:=eu b d1 10 cu (by omega);have w1:ap .i64 s.aV:=r0 (by omega) (by omega);have ke:ap .i64 s.dE:=r0 (by omega) (by omega);by_cases b8:k=0
 ·obtain⟨d3,x,c7,aJ,cC⟩:=mo b d2 [-1,3,4,9223372036854775807] cc (by simp);exact⟨d3,⟨x,s.dE⟩,c7,⟨wh aJ (by decide),ke⟩,acK ⟨bO,b6,by simp[b8],cC,aj⟩⟩
 by_cases aK:k=1
 ·obtain⟨d3,x,c7,aJ,cC⟩:=mo b d2 [-1,5,6,7,-9223372036854775808] cc (by simp);exact⟨d3,⟨s.aV,x⟩,c7,⟨w1,wh aJ (by decide)⟩,acL ⟨bO,b6,by simp[b8],by simp[aK],cC,aj⟩⟩
 exact⟨d2,s,cc,⟨w1,ke⟩,acM ⟨bO,b6,by simp[b8],by simp[aK],aj⟩⟩
theorem acw(b:List Int)(c:dV)(ai:c.ok b):∃(d:dV) (r:aQ),d.ok b/\Fair r/\cv prog 68 [.cur (c.e b) (d.e b)] (.vals [.agg r.e]):=by
 obtain⟨d1,x,cu,J,bO⟩:=eu b c 5 ai (by omega);obtain⟨d2,s,cc,⟨U,ax⟩,b6⟩:=MW b d1 cu;obtain⟨d3,k,c7,aJ,cC⟩:=eu b d2 12 cc (by omega);obtain⟨d4,v,gw,a1,eo⟩:=eu b d3 40 c7 (by omega);exact⟨d4,⟨x,s,k,v⟩,gw,⟨J,U,ax,aJ,a1⟩,acN ⟨bO,b6,cC,eo,aj⟩⟩
theorem MX(b:List Int)(c:dV)(ai:c.ok b):∃(d:dV) (r:aQ),d.ok b/\r.wf/\cv prog 47 [.cur (c.e b) (d.e b)] (.vals [.agg r.e]):=by
 obtain⟨d1,r,cu,ar,bO⟩:=acw b c ai;obtain⟨w1,ke,FX,FY⟩:=ar.wf;obtain⟨d2,k,cc,ax,b6⟩:=eu b d1 12 cu (by omega);by_cases b8:k=0
 ·obtain⟨d3,x,c7,aJ,cC⟩:=mo b d2 [-1,7,8] cc (by simp);exact⟨d3,⟨x,r.bl,r.key,r.val⟩,c7,⟨wh aJ (by decide),ke,FX,FY⟩,acO ⟨bO,b6,by simp[b8],cC,aj⟩⟩
 by_cases aK:k=1
 ·obtain⟨d3,s,c7,aJ,cC⟩:=acv b d2 cc;exact⟨d3,⟨r.op,s,r.key,r.val⟩,c7,⟨w1,aJ,FX,FY⟩,acP ⟨bO,b6,by simp[b8],by simp[aK],cC,aj⟩⟩
 by_cases aO:k=2
 ·obtain⟨d3,x,c7,aJ,cC⟩:=mo b d2 [-1,99,100,-9223372036854775808] cc (by simp);exact⟨d3,⟨r.op,r.bl,x,r.val⟩,c7,⟨w1,ke,wh aJ (by decide),FY⟩,acQ ⟨bO,b6,by simp[b8],by simp[aK],by simp[aO],cC,aj⟩⟩
 by_cases b2:k=3
 ·obtain⟨d3,x,c7,aJ,cC⟩:=mo b d2 [-1,999,1000,9223372036854775807] cc (by simp);exact⟨d3,⟨r.op,r.bl,r.key,x⟩,c7,⟨w1,ke,FX,wh aJ (by decide)⟩,acR ⟨bO,b6,by simp[b8],by simp[aK],by simp[aO],by simp[b2],cC,aj⟩⟩
 exact⟨d2,r,cc,ar.wf,acS ⟨bO,b6,by simp[b8],by simp[aK],by simp[aO],by simp[b2],aj⟩⟩
theorem Hf(r:aQ):Flat [r.e]:=dt fun d ay=>by
 simp only[aQ.e,dj,nZ,or_false]at ay;rcases ay with rfl | rfl | rfl | rfl | rfl<;>exact⟨_,rfl⟩
