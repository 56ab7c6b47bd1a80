import Derived.Test.YtdchjefneblpgaaGreatT5
import Derived.Test.YtdchjefneblpgaaGreatR35
import Derived.Test.YtdchjefneblpgaaGreatGD
import Derived.Test.YtdchjefneblpgaaGreatP55
set_option linter.unusedVariables false
set_option linter.unusedSimpArgs false
namespace Go.Proofs.YtdchjefneblpgaaGreat
open Go.Sx Go.RowKit Go.Proofs.Tryz
def gm(n:Int):List D:=[.v (.int .u8 n)]
structure dH where
 i:Int
 h:Int
def dH.e(b:List Int)(c:dH):List D:=[.J 1 (b.map gm),I c.i,I c.h]
def Bytes(b:List Int):Prop:=b.length<=8388608/\∀x∈b,0<=x/\x<=255
def dH.ok(b:List Int)(c:dH):Prop:=Bytes b/\0<=c.i/\c.i<=b.length
theorem ax9{P:Program}{t:TypeId}{ds:List D}(hu:P.underlying t=some (.int .u8))(h:jZ P t ds):∃n,ds=gm n/\0<=n/\n<=255:=by
 have U:∃n,ds=[.v (.int .u8 n)]/\(Lit.int .u8 n).wf=true:=by cases h<;>simp_all
 obtain⟨n,e,hw⟩:=U;refine⟨n,e,?_⟩;simp[Lit.wf]at hw;have ax:IntKind.u8.min=0:=rfl;rw[ax]at hw;exact hw
theorem anb:prog.cellsOf 5=1:=by kernel_rfl
theorem anc{ds:List D}(h:jZ prog 22 ds):∃xs:List Int,ds=[.J 1 (xs.map gm)]/\(xs.length:Int)<=9223372036854775807/\∀a∈xs,(fun n=>0<=n/\n<=255) a:=
 as1 gm (fun n=>0<=n/\n<=255) Tryz.underlying22 anb (fun ds h=>ax9 Tryz.underlying5 h) h
theorem ane{cB:cQ}(h:Dc prog 22 cB):∃xs:List Int,cB=.one (.J 1 (xs.map gm))/\(xs.length:Int)<=9223372036854775807/\∀a∈xs,(fun n=>0<=n/\n<=255) a:=by
 cases cB with
 | agg ds=>have:=h.2;simp[sg,Tryz.underlying22]at this
 | one d=>
  obtain⟨x,e,aa⟩:=anc h.1;obtain rfl:=(Zz e).1;exact⟨x,rfl,aa⟩
theorem Vu{P:Program}(a:Int)(n:Nat):∃m:Int,∀t x y,mg P .shr t x y (.int .i64 a) (.int .u64 (n:Int)) (.int .i64 m):=⟨_,fun _ _ _=>amh⟩
theorem anf{P:Program}(a b:Int):∃m:Int,∀t x y,mg P .xor t x y (.int .i64 a) (.int .i64 b) (.int .i64 m):=⟨_,fun _ _ _=>ami⟩
theorem Mu{P:Program}(a:Int)(k:Nat)(hk:k<2 ^ 62):∃m:Int,(0<=m/\m<=k)/\∀t x y,mg P .and t x y (.int .i64 a) (.int .i64 (k:Int)) (.int .i64 m):=⟨_,amk a k hk,fun _ _ _=>amj⟩
theorem Vv(b:List Int)(aj:Bytes b):∀(n i:Nat) (h:Int),i+n=b.length->0<=h/\h<=1073741823->∃gn,c' prog (aq f117 0) (zr (b.map gm) i h) (.exit 0) (F5 (b.map gm) gn)
 | 0,i,h,hi,bQ=>⟨h,.last (cC 0) (amn ⟨by rw[kA,bA];omega,ad⟩)⟩
 | n+1,i,h,hi,bQ=>by
  have ag:=aj.1;obtain⟨x,aa⟩:=db (xs:=b) (i:=i) (by omega);have aj:=aj.2 x (cS aa);by_cases aK:(i:Int)<4000
  ·obtain⟨m,hm,r⟩:=Mu (P:=prog) (h*131+x+7) 1073741823 (by decide);obtain⟨gn,l⟩:=Vv b ‹Bytes b› n (i+1) m (by omega) hm;exact⟨gn,.more (aml ⟨bV (by omega),iV aK,⟨by omega,by omega⟩,bk,bm (by omega),bl gm aa,⟨by omega,by omega⟩,⟨by omega,by omega⟩,⟨by omega,by omega⟩,r _ _ _,⟨by omega,by omega⟩,ad⟩) l⟩
  exact⟨h,.last (cC 0) (amm ⟨bV (by omega),lN aK,ad⟩)⟩
theorem BM(b:List Int)(aj:Bytes b):∃c:dH,c.ok b/\bZ prog 117 [.ro (.one (.J 1 (b.map gm)))] (.hX [some 0,none,none] (c.e b)):=by
 have ag:=aj.1;obtain⟨gn,l⟩:=Vv b aj b.length 0 (94701+(↑(b.map gm).length:Int)) (by omega) ⟨by omega,by simp;omega⟩;exact⟨⟨0,gn⟩,⟨aj,by dsimp only;omega,by dsimp only;omega⟩,amo ⟨⟨by omega,by simp;omega⟩,l,ad⟩⟩
theorem Fo(b:List Int)(c:dH)(ak:c.ok b):∃(d:dH) (n:Int),d.ok b/\(0<=n/\n<=255)/\bZ prog 253 [.cur (c.e b) (d.e b)] (.vals [.one (I n)]):=by
 obtain⟨⟨h1,U⟩,ax,aK⟩:=ak;obtain⟨oz,cj⟩:=Vu (P:=prog) (IntKind.i64.wrap (IntKind.i64.wrap (c.h*6364136223846793005)+1442695040888963407)) 33;obtain⟨lC,dS⟩:=Vu (P:=prog) (IntKind.i64.wrap (IntKind.i64.wrap (c.h*6364136223846793005)+1442695040888963407)) 45;obtain⟨mH,kd⟩:=anf (P:=prog) oz lC;obtain⟨n6,m6,iO⟩:=Mu (P:=prog) mH 255 (by decide);by_cases hi:c.i<b.length
 ·obtain⟨x,aa⟩:=db (xs:=b) (i:=c.i.toNat) (by omega);have aj:=U x (cS aa);obtain⟨n8,m8,axP⟩:=Mu (P:=prog) (IntKind.i64.wrap (n6+IntKind.i64.wrap x)) 255 (by decide);exact⟨⟨c.i+1,IntKind.i64.wrap (IntKind.i64.wrap (c.h*6364136223846793005)+1442695040888963407)⟩,n8,⟨⟨h1,U⟩,by dsimp only;omega,by dsimp only;omega⟩,m8,amp ⟨cj _ _ _,dS _ _ _,kd _ _ _,iO _ _ _,by rw[cr,bA];exact hi,ax,by rw[bA];exact hi,by rw[du,aa];rfl,axP _ _ _,⟨by omega,by omega⟩,ad⟩⟩
 exact⟨⟨c.i,IntKind.i64.wrap (IntKind.i64.wrap (c.h*6364136223846793005)+1442695040888963407)⟩,n6,⟨⟨h1,U⟩,ax,aK⟩,m6,amq ⟨cj _ _ _,dS _ _ _,kd _ _ _,iO _ _ _,by rw[kA,bA];exact hi,ad⟩⟩
theorem dW(b:List Int)(c:dH)(k:Int)(ak:c.ok b)(hk:1<=k/\k<=1000000):∃(d:dH) (n:Int),d.ok b/\(0<=n/\n<k)/\bZ prog 138 [.cur (c.e b) (d.e b),.ro (.one (I k))] (.vals [.one (I n)]):=by
 have md:∀m:Int,0<=m->0<=m.tmod k/\m.tmod k<k:=fun m hm=>⟨Int.tmod_nonneg _ hm,Int.tmod_lt_of_pos m (by omega)⟩
 obtain⟨d1,iD,cv,eP,bI⟩:=Fo b c ak;by_cases h:k<=256
 ·exact⟨d1,_,cv,md iD eP.1,amr ⟨lN (by omega),iV h,bI,by omega,ad⟩⟩
 obtain⟨d2,js,ca,eX,b2⟩:=Fo b d1 cv;obtain⟨d3,oz,cD,jA,cj⟩:=Fo b d2 ca;obtain⟨d4,lC,ff,si,dS⟩:=Fo b d3 cD;exact⟨d4,_,ff,md _ (by omega),ams ⟨lN (by omega),lN h,bI,b2,cj,dS,⟨by omega,by omega⟩,⟨by omega,by omega⟩,⟨by omega,by omega⟩,⟨by omega,by omega⟩,⟨by omega,by omega⟩,⟨by omega,by omega⟩,by omega,ad⟩⟩
theorem pI(b:List Int)(c:dH)(k:Int)(ak:c.ok b)(hk:1<=k/\k<=1000000):∃(d:dH) (x:Bool),d.ok b/\bZ prog 136 [.cur (c.e b) (d.e b),.ro (.one (I k))] (.vals [.one (B x)]):=by
 obtain⟨d,n,o,_,r⟩:=dW b c k ak hk;exact⟨d,_,o,amt ⟨r,ad⟩⟩
theorem mf(b:List Int)(c:dH)(xs:List Int)(ak:c.ok b)(hk:1<=xs.length/\xs.length<=1000):∃(d:dH) (n:Int),d.ok b/\n∈xs/\bZ prog 140 [.cur (c.e b) (d.e b),.ro (.one (.J 1 (xs.map bb)))] (.vals [.one (I n)]):=by
 obtain⟨d,n,o,aj,r⟩:=dW b c (xs.length:Int) ak (by omega);obtain⟨x,aa⟩:=db (xs:=xs) (i:=n.toNat) (by omega);refine⟨d,x,o,cS aa,alU ⟨?_,aj.1,by rw[bA];exact aj.2,by rw[du,aa];rfl,ad⟩⟩;rw[bA];exact r
end Go.Proofs.YtdchjefneblpgaaGreat
namespace Go.Proofs.YtdchjefneblpgaaGreat
open Go.Sx Go.RowKit Go.Proofs.Tryz
def Input(r:aB):Prop:=r.op=0/\r.bq.di=0/\(0<=r.bq.bh/\r.bq.bh<=2)/\(0<=r.key/\r.key<12)/\(0<=r.val/\r.val<40)
theorem Vw(b:List Int):∀(n i:Nat) (e:Int) (xs:List aB) (c:dH),i+n=5->c.ok b->(0<=e/\e<=2)->xs.length<=i->(∀r∈xs,Input r)->
  ∃(ys:List aB) (d:dH),d.ok b/\ys.length<=5/\(∀r∈ys,Input r)/\c' prog (aq f119 0) (BK (b.map gm) i e (xs.map aB.e) c.i c.h) (.exit 0) (Mo (b.map gm) (ys.map aB.e) d.i d.h)
 | n,i,e,xs,c,i',ak,he,ag,aa=>by
  obtain⟨d1,m,cv,aj,bI⟩:=dW b c 6 ak (by omega);by_cases h:(i:Int)<m
  ·match n with
   | 0=>omega
   | n+1=>
    obtain⟨d2,a,ca,ae,b2⟩:=dW b d1 2 cv (by omega);obtain⟨d3,k,cD,hk,cj⟩:=dW b d2 12 ca (by omega);obtain⟨d4,v,ff,bF,dS⟩:=dW b d3 40 cD (by omega);have o1:=EK (e+a) 0 2;have PQ:0<=gG (e+a) 0 2/\gG (e+a) 0 2<=2:=by
     unfold gG;simp only[show ¬(2:Int)<0 by omega,ll];split<;>(try split)<;>omega
    obtain⟨ys,d,o,fp,fb,l⟩:=Vw b n (i+1) (gG (e+a) 0 2) (xs++[⟨0,⟨gG (e+a) 0 2,0⟩,k,v⟩]) d4 (by omega) ff PQ (by simp;omega) (fun r aA=>by
     rcases hD.1 aA with aA | aA
     ·exact aa r aA
     rw[List.mem_singleton]at aA;subst aA;exact⟨rfl,rfl,PQ,hk,bF⟩)
    refine⟨ys,d,o,fp,fb,.more ?_ l⟩;rw[gW];exact anT ⟨bI,iV h,b2,⟨by omega,by omega⟩,o1,cj,dS,by simp;omega,by simp;omega,dU (fun d aE=>by simp only[ez,n1,or_false]at aE;rcases aE with rfl | rfl | rfl | rfl | rfl<;>exact⟨_,rfl⟩),⟨by omega,by omega⟩,ad⟩
  exact⟨xs,d1,cv,by omega,aa,.last (cC 0) (anU ⟨bI,lN h,ad⟩)⟩
theorem Mv(b:List Int)(c:dH)(ak:c.ok b):∃(d:dH) (xs:List aB),d.ok b/\xs.length<=5/\(∀r∈xs,Input r)/\bZ prog 119 [.cur (c.e b) (d.e b)] (.vals [.one (.J 5 (xs.map aB.e))]):=by
 obtain⟨ys,d,o,fp,fb,l⟩:=Vw b 5 0 0 [] c rfl ak (by omega) (by simp) (by simp);exact⟨d,ys,o,fp,fb,anV ⟨l,ad⟩⟩
end Go.Proofs.YtdchjefneblpgaaGreat
namespace Go.Proofs.YtdchjefneblpgaaGreat
open Go.Sx Go.RowKit Go.Proofs.Tryz
def rZ(k a b:Int):List Node:=[⟨1,0,0,[1]⟩,⟨k,0,0,[2,5]⟩,⟨4,1+a,0,[3]⟩,⟨2,b,0,[4]⟩,⟨7,0,0,[1]⟩,⟨8,0,0,[]⟩]
def kv(k a b c:Int):Nat->List Node
 | 0=>(rZ k a b).set 3 ⟨3,1+c,0,[4]⟩
 | 1=>(rZ k a b).set 4 ⟨8,0,0,[]⟩
 | 2=>(rZ k a b).set 2 ⟨4,1+a,0,[3,4]⟩
 | 3=>(rZ k a b++[(⟨8,0,0,[]⟩:Node)]).set 0 ⟨1,0,0,[1,6]⟩
 | _=>rZ k a b
structure kB (g:bS):Prop where
 nodes:∃(k a b c:Int) (v:Nat),(k=5\/k=6)/\(0<=a/\a<3)/\(0<=b/\b<4)/\(0<=c/\c<3)/\v<=4/\g.nodes=kv k a b c v
 ap:1<=g.ap/\g.ap<=3
 cap:1<=g.cap/\g.cap<=3
theorem kB.ok{g:bS}(h:kB g):et g=true:=by
 obtain⟨⟨k,a,b,c,v,hk,ae,aj,ak,bF,aR⟩,hw,gd⟩:=h;obtain⟨nodes,ap,cap⟩:=g;simp only at aR hw gd;have Z6:a=0\/a=1\/a=2:=by omega
 have Z7:b=0\/b=1\/b=2\/b=3:=by omega
 have Z8:c=0\/c=1\/c=2:=by omega
 have br:v=0\/v=1\/v=2\/v=3\/v=4:=by omega
 have ay0:ap=1\/ap=2\/ap=3:=by omega
 have ep:cap=1\/cap=2\/cap=3:=by omega
 have key:∀k∈[(5:Int),6],∀a∈[(0:Int),1,2],∀b∈[(0:Int),1,2,3],∀c∈[(0:Int),1,2],∀v∈[0,1,2,3,4],(!(anyI (jd ⟨kv k a b c v,1,1⟩) 0 (kv k a b c v))&&decide ((kv k a b c v).length<=7)&&decide (1<=(kv k a b c v).length))=true:=by decide +kernel
 have:=key k (by rcases hk with h | h<;>simp[h]) a (by rcases Z6 with h | h | h<;>simp[h]) b (by rcases Z7 with h | h | h | h<;>simp[h]) c (by rcases Z8 with h | h | h<;>simp[h]) v (by rcases br with h | h | h | h | h<;>simp[h]);simp only[cm,cr]at this;obtain⟨⟨h1,U⟩,ax⟩:=this;subst aR;have abE:jd ⟨kv k a b c v,ap,cap⟩=jd ⟨kv k a b c v,1,1⟩:=rfl;unfold et;simp only[cm];rw[abE];refine⟨⟨⟨?_,?_⟩,?_⟩,h1⟩
 ·simp only[ar,cm,cr];omega
 ·simp only[ar,cm,cr];omega
 simp only[ar,cm,cr];omega
theorem Mw(b:List Int)(c:dH)(ak:c.ok b):∃(d:dH) (g:bS),d.ok b/\kB g/\bZ prog 118 [.cur (c.e b) (d.e b)] (.vals [.agg g.e]):=by
 obtain⟨d1,iD,cv,h1,bI⟩:=dW b c 3 ak (by omega);obtain⟨d2,js,ca,U,b2⟩:=dW b d1 3 cv (by omega);obtain⟨d3,x,cD,cj⟩:=pI b d2 3 ca (by omega);obtain⟨d4,lC,ff,aK,dS⟩:=dW b d3 3 cD (by omega);obtain⟨d5,mH,oC,a7,kd⟩:=dW b d4 4 ff (by omega);obtain⟨d6,n6,oD,bp,iO⟩:=dW b d5 3 oC (by omega);obtain⟨d7,n7,sZ,b6,io⟩:=dW b d6 6 oD (by omega);have i1:aG .i64 (1+iD):=⟨by omega,by omega⟩
 have i2:aG .i64 (1+js):=⟨by omega,by omega⟩
 have i4:aG .i64 (1+lC):=⟨by omega,by omega⟩
 have i6:aG .i64 (1+n6):=⟨by omega,by omega⟩
 have fin:∀(k:Int) (v:Nat) {ds:List (List D)},(k=5\/k=6)->v<=4->mq ds ((kv k lC mH n6 v).map Node.e)->bZ prog 118 [.cur (c.e b) (d7.e b)] (.vals [.agg [.J 4 ds,I (1+iD),I (1+js)]])->
   ∃(d:dH) (g:bS),d.ok b/\kB g/\bZ prog 118 [.cur (c.e b) (d.e b)] (.vals [.agg g.e]):=by
  intro k v ds hk bF bw aA;exact⟨d7,⟨kv k lC mH n6 v,1+iD,1+js⟩,sZ,⟨⟨k,lC,mH,n6,v,hk,aK,a7,bp,bF,rfl⟩,by dsimp only;omega,by dsimp only;omega⟩,
   aA.fit (.cons (.agg (.cons (.J 4 bw) (ki.refl _))) .nil)⟩
 have f1:∀d,Fit d d:=.refl;by_cases bM:n7=0
 ·cases x
  ·exact fin 5 0 (.inl rfl) (by omega) (by repeat (first | exact .refl _ | constructor)) (anD ⟨bI,i1,b2,i2,cj,rfl,dS,i4,kd,iO,i6,io,by simp[bM],by omega,by simp,rfl,ad⟩)
  exact fin 6 0 (.inr rfl) (by omega) (by repeat (first | exact .refl _ | constructor)) (anx ⟨bI,i1,b2,i2,cj,rfl,dS,i4,kd,iO,i6,io,by simp[bM],by omega,by simp,rfl,ad⟩)
 by_cases e1:n7=1
 ·cases x
  ·exact fin 5 1 (.inl rfl) (by omega) (by repeat (first | exact .refl _ | constructor)) (anE ⟨bI,i1,b2,i2,cj,rfl,dS,i4,kd,iO,i6,io,by simp[bM],by simp[e1],by omega,by simp,rfl,ad⟩)
  exact fin 6 1 (.inr rfl) (by omega) (by repeat (first | exact .refl _ | constructor)) (anz ⟨bI,i1,b2,i2,cj,rfl,dS,i4,kd,iO,i6,io,by simp[bM],by simp[e1],by omega,by simp,rfl,ad⟩)
 by_cases e2:n7=2
 ·cases x
  ·exact fin 5 2 (.inl rfl) (by omega) (by repeat (first | exact .refl _ | constructor)) (anF ⟨bI,i1,b2,i2,cj,rfl,dS,i4,kd,iO,i6,io,by simp[bM],by simp[e1],by simp[e2],by omega,by simp,rfl,ad⟩)
  exact fin 6 2 (.inr rfl) (by omega) (by repeat (first | exact .refl _ | constructor)) (anA ⟨bI,i1,b2,i2,cj,rfl,dS,i4,kd,iO,i6,io,by simp[bM],by simp[e1],by simp[e2],by omega,by simp,rfl,ad⟩)
 by_cases ck:n7=3
 ·cases x
  ·exact fin 5 3 (.inl rfl) (by omega) (by repeat (first | exact .refl _ | constructor)) (anG ⟨bI,i1,b2,i2,cj,rfl,dS,i4,kd,iO,i6,io,by simp[bM],by simp[e1],by simp[e2],by simp[ck],by simp,by simp,by omega,by simp,rfl,ad⟩)
  exact fin 6 3 (.inr rfl) (by omega) (by repeat (first | exact .refl _ | constructor)) (anB ⟨bI,i1,b2,i2,cj,rfl,dS,i4,kd,iO,i6,io,by simp[bM],by simp[e1],by simp[e2],by simp[ck],by simp,by simp,by omega,by simp,rfl,ad⟩)
 cases x
 ·exact fin 5 4 (.inl rfl) (by omega) (by repeat (first | exact .refl _ | constructor)) (anH ⟨bI,i1,b2,i2,cj,rfl,dS,i4,kd,iO,i6,io,by simp[bM],by simp[e1],by simp[e2],by simp[ck],ad⟩)
 exact fin 6 4 (.inr rfl) (by omega) (by repeat (first | exact .refl _ | constructor)) (anC ⟨bI,i1,b2,i2,cj,rfl,dS,i4,kd,iO,i6,io,by simp[bM],by simp[e1],by simp[e2],by simp[ck],ad⟩)
def Fp(p:cP):Prop:=(1<=p.kind/\p.kind<=7)/\(0<=p.a/\p.a<3)/\(0<=p.b/\p.b<3)
theorem ang(b:List Int)(c:dH)(ak:c.ok b):∃(d:dH) (p:cP),d.ok b/\Fp p/\bZ prog 242 [.cur (c.e b) (d.e b)] (.vals [.agg p.e]):=by
 obtain⟨d1,k,cv,h1,bI⟩:=mf b c [1,1,1,2,3,3,3,4,4,5,6,6,7] ak (by simp);obtain⟨d2,a,ca,U,b2⟩:=dW b d1 3 cv (by omega);have hk:1<=k/\k<=7:=by
  simp only[ez,n1,or_false]at h1;omega
 by_cases dX:k=4
 ·obtain⟨d3,m,cD,ax,cj⟩:=dW b d2 2 ca (by omega);have lA:aG .i64 (a+1):=⟨by omega,by omega⟩
  have lB:aG .i64 (a+1+m):=⟨by omega,by omega⟩
  exact⟨d3,⟨k,a,(a+1+m).tmod 3⟩,cD,⟨hk,U,Int.tmod_nonneg _ (by omega),Int.tmod_lt_of_pos _ (by omega)⟩,am4 ⟨bI,b2,by simp[dX],anW ⟨lA,cj,lB,by decide,ad⟩,ad⟩⟩
 by_cases gB:k=5
 ·obtain⟨d3,m,cD,ax,cj⟩:=dW b d2 2 ca (by omega);have lA:aG .i64 (a+1):=⟨by omega,by omega⟩
  have lB:aG .i64 (a+1+m):=⟨by omega,by omega⟩
  exact⟨d3,⟨k,a,(a+1+m).tmod 3⟩,cD,⟨hk,U,Int.tmod_nonneg _ (by omega),Int.tmod_lt_of_pos _ (by omega)⟩,am6 ⟨bI,b2,by simp[dX],by simp[gB],am5 ⟨lA,cj,lB,by decide,ad⟩,ad⟩⟩
 exact⟨d2,⟨k,a,0⟩,ca,⟨hk,U,by dsimp only;omega⟩,am7 ⟨bI,b2,by simp[dX],by simp[gB],ad⟩⟩
theorem aae(p:cP):Flat [p.e]:=dU fun d aE=>by
 simp only[cP.e,ez,n1,or_false]at aE;rcases aE with rfl | rfl | rfl<;>exact⟨_,rfl⟩
theorem Vx(b:List Int)(m:Nat)(hm:m<=1000):∀(n i:Nat) (xs:List cP) (c:dH),i+n=m+1->c.ok b->xs.length<=i->(∀p∈xs,Fp p)->
  ∃(ys:List cP) (d:dH),d.ok b/\ys.length<=m+1/\(∀p∈ys,Fp p)/\c' prog (aq f120 0) (BL (b.map gm) m i (xs.map cP.e) c.i c.h) (.exit 0) (Mt (b.map gm) (ys.map cP.e) d.i d.h)
 | n,i,xs,c,i',ak,ag,aa=>by
  obtain⟨d1,k,cv,hk,bI⟩:=dW b c ((m:Int)+1) ak (by omega);by_cases h:(i:Int)<k
  ·match n with
   | 0=>omega
   | n+1=>
    obtain⟨d2,p,ca,hp,b2⟩:=ang b d1 cv;obtain⟨ys,d,o,fp,fb,l⟩:=Vx b m hm n (i+1) (xs++[p]) d2 (by omega) ca (by simp;omega) (fun z a6=>by
     rcases hD.1 a6 with a6 | a6
     ·exact aa z a6
     rw[List.mem_singleton]at a6;subst a6;exact hp)
    refine⟨ys,d,o,fp,fb,.more ?_ l⟩;rw[gW];exact am8 ⟨⟨by omega,by omega⟩,bI,iV h,b2,by simp;omega,by simp;omega,aae p,⟨by omega,by omega⟩,ad⟩
  exact⟨xs,d1,cv,by omega,aa,.last (cC 0) (am9 ⟨⟨by omega,by omega⟩,bI,lN h,ad⟩)⟩
theorem anh(b:List Int)(c:dH)(m:Nat)(hm:m<=1000)(ak:c.ok b):∃(d:dH) (cF:List cP),d.ok b/\cF.length<=m+1/\(∀p∈cF,Fp p)/\bZ prog 120 [.cur (c.e b) (d.e b),.ro (.one (I m))] (.vals [.one (.J 3 (cF.map cP.e))]):=by
 obtain⟨ys,d,o,fp,fb,l⟩:=Vx b m hm (m+1) 0 [] c (by omega) ak (by simp) (by simp);exact⟨d,ys,o,fp,fb,ana ⟨l,ad⟩⟩
end Go.Proofs.YtdchjefneblpgaaGreat
namespace Go.Proofs.YtdchjefneblpgaaGreat
open Go.Sx Go.RowKit Go.Proofs.Tryz
theorem kB.size{g:bS}(h:kB g):g.sz<=100:=by
 obtain⟨⟨k,a,b,c,v,hk,ae,aj,ak,bF,aR⟩,hw,gd⟩:=h;obtain⟨nodes,ap,cap⟩:=g;simp only at aR;subst aR;have e:(⟨kv k a b c v,ap,cap⟩:bS).sz=eZ Node.sz (kv k a b c v):=rfl;rw[e];have br:v=0\/v=1\/v=2\/v=3\/v=4:=by omega
 rcases br with rfl | rfl | rfl | rfl | rfl<;>simp[eZ,kv,rZ,Node.sz]
theorem Input.pZ{r:aB}(h:Input r):me r=false:=by
 obtain⟨h1,U,ax,aK,a7⟩:=h;have ok:eL r=true:=by
  simp only[eL,iL,gu,ar,cm,cr,h1,U];omega
 simp[me,ok,h1,U]
theorem Mx{g:bS}{xs:List aB}(av:kB g)(ag:xs.length<=6)(aa:∀r∈xs,Input r):iE g xs=true:=
 vb.2 ⟨av.ok,by omega,fh.2 fun r aA=>by simp[(aa r aA).pZ]⟩
end Go.Proofs.YtdchjefneblpgaaGreat
namespace Go.Proofs.YtdchjefneblpgaaGreat
open Go.Sx Go.RowKit Go.Proofs.Tryz
def uO(op ep key:Int)(a:Cell):Bool:=decide (a.op=op/\a.bh=ep/\a.key=key)
theorem Vy(op ep key:Int):∀(xs:List Cell) (s:Int×Bool),
  ((s.2=true->(xs.foldl (gK op ep key) s).2=true/\(xs.foldl (gK op ep key) s).1<=s.1))/\
  (∀a∈xs,uO op ep key a=true->(xs.foldl (gK op ep key) s).2=true/\(xs.foldl (gK op ep key) s).1<=a.val)
 | [],s=>⟨fun h=>⟨h,Int.le_refl _⟩,by simp⟩
 | x::xs,s=>by
  obtain⟨h1,U⟩:=Vy op ep key xs (gK op ep key s x);rw[List.foldl_cons];have ai:s.2=true->(gK op ep key s x).2=true/\(gK op ep key s x).1<=s.1:=by
   intro h;unfold gK;split
   ·rename_i ak;obtain⟨_,_,_,ak⟩:=ak;refine⟨rfl,?_⟩;rcases ak with ak | ak
    ·rw[h]at ak;cases ak
    show x.val<=s.1;omega
   exact⟨h,Int.le_refl _⟩
  have aa:uO op ep key x=true->(gK op ep key s x).2=true/\(gK op ep key s x).1<=x.val:=by
   intro h;simp only[uO,cr]at h;unfold gK;split
   ·exact⟨rfl,Int.le_refl _⟩
   rename_i ak;have ax:¬(s.2=false\/x.val<s.1):=fun aK=>ak ⟨h.1,h.2.1,h.2.2,aK⟩
   have aK:s.2=true:=by
    cases e:s.2 with
    | true=>rfl
    | false=>exact absurd (.inl e) ax
   exact⟨aK,by have:¬x.val<s.1:=fun a7=>ax (.inr a7);omega⟩
  refine⟨fun h=>?_,fun a ae mB=>?_⟩
  ·obtain⟨ax,aK⟩:=ai h;obtain⟨a7,bp⟩:=h1 ax;exact⟨a7,ZA bp aK⟩
  rcases ez.1 ae with rfl | ae
  ·obtain⟨ax,aK⟩:=aa mB;obtain⟨a7,bp⟩:=h1 ax;exact⟨a7,ZA bp aK⟩
  exact U a ae mB
theorem ani{xs:List Cell}{op ep key:Int}{a:Cell}(ae:a∈xs)(h:uO op ep key a=true):(rU xs op ep key).2=true/\(rU xs op ep key).1<=a.val:=
 (Vy op ep key xs (0,false)).2 a ae h
def anj(e:Int)(a:Cell):Prop:=a.bh=e/\0<=a.op/\a.op<8/\0<=a.key/\a.key<=99/\0<=a.val/\a.val<=999
def ank(a:Cell):Nat:=a.op.toNat*100+a.key.toNat
structure ayD (e:Int) (xs:List Cell):Prop where
 tJ:∀a∈xs,anj e a
 apart:(xs.map ank).Nodup
theorem Vz(xs:List Cell)(x:Cell):te xs x=true<->x∈xs:=by
 simp only[te,nd,cr];constructor
 ·rintro⟨a,ae,rfl⟩;exact ae
 exact fun h=>⟨x,h,rfl⟩
theorem anl{xs:List Cell}{x:Cell}(aj:(lb xs x).2=false):(lb xs x).1=xs:=by
 unfold lb at aj ⊢;split
 ·rfl
 rename_i ak;rw[ba ak]at aj;cases aj
def cellsOf(e:Int)(r:aB):Cell:=⟨0,e,r.key,r.val⟩
def rounds(n:Nat):Nat:=2400000+n
end Go.Proofs.YtdchjefneblpgaaGreat
namespace Go.Proofs.YtdchjefneblpgaaGreat
open Go.Sx Go.RowKit Go.Proofs.Tryz
variable{xs:List Cell}
theorem VA{x z:Cell}:z∈mQ xs x<->z=x\/z∈xs:=by
 unfold mQ;split
 ·rename_i h;have hm:=(Vz xs x).1 h;exact⟨.inr,fun a6=>a6.elim (fun e=>e▸hm) id⟩
 generalize nT xs x=n;have e:z∈xs<->z∈xs.take n\/z∈xs.drop n:=by rw[<-hD,O4]
 rw[e,hD,ez];constructor
 ·rintro (h | h | h)
  ·exact .inr (.inl h)
  ·exact .inl h
  exact .inr (.inr h)
 rintro (h | h | h)
 ·exact .inr (.inl h)
 ·exact .inl h
 exact .inr (.inr h)
theorem W2(op ep key:Int):∀(xs:List Cell) (s:Int×Bool),(xs.foldl (gK op ep key) s).2=true->
  (s.2=true/\(xs.foldl (gK op ep key) s).1=s.1)\/∃a∈xs,uO op ep key a=true/\a.val=(xs.foldl (gK op ep key) s).1
 | [],s,h=>.inl ⟨h,rfl⟩
 | x::xs,s,h=>by
  rw[List.foldl_cons]at h ⊢;rcases W2 op ep key xs (gK op ep key s x) h with⟨h1,U⟩ | ⟨a,ae,h1,U⟩
  ·rw[U];unfold gK at h1 ⊢;split
   ·rename_i ak;exact .inr ⟨x,eO ..,by simp only[uO,cr];exact⟨ak.1,ak.2.1,ak.2.2.1⟩,rfl⟩
   rename_i ak;rw[ba ak]at h1;exact .inl ⟨h1,rfl⟩
  exact .inr ⟨a,fi _ ae,h1,U⟩
variable{u:Cell}
theorem w7{a:Cell}:fN u a=true<->a.op=u.op/\a.bh=u.bh/\a.key=u.key:=by
 simp only[fN,cm,ed];constructor
 ·rintro⟨⟨h1,U⟩,ax⟩;exact⟨h1.symm,U.symm,ax.symm⟩
 rintro⟨h1,U,ax⟩;exact⟨⟨h1.symm,U.symm⟩,ax.symm⟩
def th(k:Int)(xs:List Cell)(u:Cell):Prop:=if k=6 then u∈xs else ∃a∈xs,fN u a=true/\a.val<=u.val
theorem anm(xs:List Cell)(u:Cell):(lb xs u).2=false<->∃a∈xs,fN u a=true/\a.val<=u.val:=by
 unfold lb;constructor
 ·intro h;split at h
  ·rename_i ak;simp only[cm,cr]at ak;rcases W2 u.op u.bh u.key xs (0,false) ak.1 with⟨h1,_⟩ | ⟨a,ae,h1,U⟩
   ·cases h1
   simp only[uO,cr]at h1;exact⟨a,ae,w7.2 h1,by rw[U];exact ak.2⟩
  cases h
 rintro⟨a,ae,h1,U⟩;obtain⟨cG,cg⟩:=ani ae (op:=u.op) (ep:=u.bh) (key:=u.key) (by simp only[uO,cr];exact w7.1 h1);rw[cG,iV (by omega)];rfl
variable{k:Int}
theorem Fq(hk:k=5\/k=6\/k=8)(xs:List Cell)(u:Cell):(c5 k xs u).2=false<->th k xs u:=by
 unfold c5 th;by_cases bp:k=6
 ·rw[bi bp,bi bp,<-Vz];split
  ·rename_i h;exact⟨fun _=>h,fun _=>rfl⟩
  rename_i h;exact⟨fun q=>(by cases q),fun q=>absurd q h⟩
 rw[ba bp,ba bp,bi (by omega)];exact anm xs u
theorem w8(a7:k≠5)(bp:k≠6)(dn:k≠8)(xs:List Cell)(u:Cell):c5 k xs u=(xs,true):=by
 unfold c5;rw[ba bp,ba (by omega)]
theorem ann(h:(c5 k xs u).2=false):(c5 k xs u).1=xs:=by
 unfold c5 at h ⊢;split
 ·rename_i bp;rw[bi bp]at h;split
  ·rfl
  rename_i h1;rw[ba h1]at h;cases h
 rename_i bp;rw[ba bp]at h;split
 ·rename_i h1;rw[bi h1]at h;exact anl h
 rfl
theorem Fs(hk:k=5\/k=6\/k=8){z:Cell}(h:(c5 k xs u).2=true):z∈(c5 k xs u).1<->z=u\/(z∈xs/\(k≠6->fN u z=false)):=by
 unfold c5 at h ⊢;by_cases bp:k=6
 ·rw[bi bp]at h ⊢;split
  ·rename_i h1;rw[bi h1]at h;cases h
  rw[VA];exact⟨fun q=>q.imp id fun q=>⟨q,fun n=>absurd bp n⟩,fun q=>q.imp id fun q=>q.1⟩
 rw[ba bp,bi (by omega)]at h ⊢;unfold lb at h ⊢;split
 ·rename_i h1;rw[bi h1]at h;cases h
 rw[VA,List.mem_filter];simp only[fP];exact⟨fun q=>q.imp id fun q=>⟨q.1,fun _=>q.2⟩,fun q=>q.imp id fun q=>⟨q.1,q.2 bp⟩⟩
theorem ano{k cn:Int}(hk:k=5\/k=6\/k=8){u y:Cell}(jD:y.op=u.op->cn=k)(h:th k xs u):th k (c5 cn xs y).1 u:=by
 cases aA:(c5 cn xs y).2 with
 | false=>rw[ann aA];exact h
 | true=>
  by_cases ja:cn=5\/cn=6\/cn=8
  case neg=>rw[w8 (by omega) (by omega) (by omega)];exact h
  unfold th at h ⊢;by_cases bp:k=6
  ·rw[bi bp]at h ⊢;rw[Fs ja aA];refine .inr ⟨h,fun ct=>?_⟩;rw[lj];intro ai;exact ct ((jD (w7.1 ai).1.symm).trans bp)
  rw[ba bp]at h ⊢;obtain⟨a,ae,ai,bF⟩:=h;obtain⟨s1,s2,azR⟩:=w7.1 ai;by_cases DQ:cn≠6/\fN y a=true
  ·obtain⟨t1,t2,t3⟩:=w7.1 DQ.2;refine⟨y,(Fs ja aA).2 (.inl rfl),w7.2 ⟨by omega,by omega,by omega⟩,?_⟩;have nb:¬th cn xs y:=fun q=>by rw[(Fq ja xs y).2 q]at aA;cases aA
   unfold th at nb;rw[ba DQ.1]at nb;have:¬a.val<=y.val:=fun q=>nb ⟨a,ae,DQ.2,q⟩
   omega
  refine⟨a,(Fs ja aA).2 (.inr ⟨ae,fun ct=>?_⟩),ai,bF⟩;rw[lj];exact fun q=>DQ ⟨ct,q⟩
theorem anp(hk:k=5\/k=6\/k=8)(h:(c5 k xs u).2=true):th k (c5 k xs u).1 u:=by
 have hm:=(Fs hk (z:=u) h).2 (.inl rfl);unfold th;split
 ·exact hm
 exact⟨u,hm,w7.2 ⟨rfl,rfl,rfl⟩,Int.le_refl _⟩
variable{x:Node}{g:bS}
theorem anq{op:Int}(h:gj g op=some x):0<=op/\g.nodes[op.toNat]?=some x:=by
 unfold gj at h;split at h
 ·exact⟨‹_›,h⟩
 cases h
theorem W3(av:et g=true){op:Int}(h:gj g op=some x):aL x=true:=by
 simp only[et,cm,fP]at av;have:=BA av.2 op.toNat x (anq h).2;rw[dG]at this;simp only[jd,fB,jx]at this;exact this.1.1
variable{r:aB}
theorem BN(h:eL r=true):gu r.key r.val=true:=by
 simp only[eL,cm]at h;exact h.2
theorem anr{cs:List Cell}(av:et g=true)(aA:eL r=true)(aa:gj g r.op=some x):(d' g cs r).1=(c5 x.kind cs (cellOf r)).1:=by
 have aR:=W3 av aa;have hi:=BN aA;unfold d';rw[aa];simp only[fo,av,aA,Bool.and_self,fQ];split
 ·rename_i ak;simp only[cm,fP,bne_iff_ne,hc]at ak;have ax:x.kind=3:=by
   refine Classical.byContradiction fun ax=>?_
   have:=ak.1;unfold dy at this;rw[aR,hi]at this;simp only[Bool.and_self,fQ]at this;split at this
   ·cases this
   split at this
   ·cases this
   first
   | (rw[ba ax]at this;simp[ak.2]at this)
   | simp[ax,ak.2]at this
  rw[w8 (by omega) (by omega) (by omega)]
 split
 ·rfl
 ·split<;>rfl
theorem ant{cs:List Cell}(av:et g=true)(aA:eL r=true)(aa:gj g r.op=some x):(d' g cs r).2.1=
  if (!(dy x r.key r.val).2.2&&x.kind != 8)=true then [] else if (c5 x.kind cs (cellOf r)).2=false then []
  else if x.kind=7 then (if (gJ r.bq).2=true then fv x (gJ r.bq).1 (dy x r.key r.val).1 (dy x r.key r.val).2.1 else []) else fv x r.bq (dy x r.key r.val).1 (dy x r.key r.val).2.1:=by
 unfold d';rw[aa];simp only[fo,av,aA,Bool.and_self,fQ];split
 ·rfl
 rw[show (⟨r.op,r.bq.bh,r.key,r.val⟩:Cell)=cellOf r from rfl];cases U:(c5 x.kind cs (cellOf r)).2 with
 | false=>rfl
 | true=>
  simp only[jj,oZ,ll];split
  ·cases (gJ r.bq).2<;>rfl
  rfl
end Go.Proofs.YtdchjefneblpgaaGreat
namespace Go.Proofs.YtdchjefneblpgaaGreat
open Go.Sx Go.RowKit Go.Proofs.Tryz
structure kD (F I:aB->Prop) (c:a8):Prop where
 w:∀x∈c.ap,∀r,r∈x.queue\/r∈x.b3->F r
 l:∀l∈c.bR,∀r∈l.queue,F r
 i:∀x∈c.ap,∀r∈x.bK,I r
variable{F I:aB->Prop}
theorem kD.setW{c:a8}{i:Int}{y:aQ}(h:kD F I c)(h1:∀r,r∈y.queue\/r∈y.b3->F r)(U:∀r∈y.bK,I r):kD F I (setW c i y):=
 ⟨fun x aa=>by
  rcases hb aa with aa | rfl
  ·exact h.w x aa
  ·exact h1,h.l,fun x aa=>by
  rcases hb aa with aa | rfl
  ·exact h.i x aa
  exact U⟩
theorem kD.dd{c:a8}{i:Int}{m:bD}(h:kD F I c)(h1:∀r∈m.queue,F r):kD F I (dd c i m):=
 ⟨h.w,fun l ag=>by
  rcases hb ag with ag | rfl
  ·exact h.l l ag
  exact h1,h.i⟩
variable{c:a8}
theorem kD.at{i:Int}{x:aQ}(h:kD F I c)(aa:cp c i=some x):(∀r,r∈x.queue\/r∈x.b3->F r)/\∀r∈x.bK,I r:=
 ⟨h.w x (cS (eJ aa).2.2),h.i x (cS (eJ aa).2.2)⟩
theorem kD.cY{i:Int}{u:bT}(h:kD F I c):kD F I (cY c i u):=⟨h.w,h.l,h.i⟩
theorem kD.ev{e:Int}{t:bT}{x:aQ}(h:kD F I c)(aa:cp c t.place=some x):kD F I (ev c e t x).1:=by
 obtain⟨h1,U⟩:=h.at aa;rcases oH c e t x with⟨_,k⟩ | ⟨_,_,⟨_,k⟩ | ⟨_,_,k⟩ | ⟨_,bg,_,k⟩ | ⟨_,_,_,k⟩⟩
 ·rw[k];exact h
 ·rw[k];exact h.cY.setW h1 U
 ·rw[k];exact h.cY.setW h1 U
 ·rw[k];have cg:=(h.cY (i:=e) (u:=⟨false,t.place,t.sum,t.bN,t.cw⟩)).setW (i:=0) (y:=told x e (t.cw||x.bB.getD e.toNat false)) h1 U;exact⟨cg.w,cg.l,cg.i⟩
 rw[k];exact⟨h.w,h.l,h.i⟩
theorem kD.step{d:a8}{p:cP}(h:kD F I c)(aam:∀r,I r->F r)(aal:∀r cs,F r->jw c.aC r=false->∀q∈(d' c.aC cs r).2.1,F q)(bP:cK c=true)(st:Step c p d):kD F I d:=by
 cases st with
 | work x r q hk aa ai az=>
  obtain⟨h1,U⟩:=h.at aa;have aj:=(hZ.1 (jO bP aa)).1;rw[az,qA]at aj;refine h.setW (fun a ae=>?_) U;rcases ae with ae | ae
  ·exact h1 a (.inl (by rw[az];exact fi _ ae))
  exact aal r _ (h1 r (.inl (by rw[az];exact eO ..))) aj.1 a ae
 | input x r t hk aa ai az hi=>
  obtain⟨h1,U⟩:=h.at aa;rw[hi]at U;refine h.setW (fun a ae=>?_) (fun a ae=>U a (fi _ ae));rcases ae with ae | ae
  ·obtain rfl:a=r:=by simpa using ae
   exact aam a (U a (eO ..))
  cases ae
 | eN x r t hk aa ai aU=>
  obtain⟨h1,U⟩:=h.at aa;rw[ai]at h1;refine h.setW (fun a ae=>?_) U;rcases ae with ae | ae
  ·rcases hD.1 ae with ae | ae
   ·exact h1 a (.inl ae)
   obtain rfl:a=r:=by simpa using ae
   exact h1 a (.inr (eO ..))
  exact h1 a (.inr (fi _ ae))
 | send x r t l hk aa ai aU ag hsend=>
  obtain⟨_,_,_,e1⟩:=Cj hsend;obtain⟨h1,U⟩:=h.at aa;rw[ai]at h1;refine (h.dd (i:=dR c.aC p.a (eh r.key c.aC.ap)) (m:=(eY l r).1) fun a ae=>?_).setW (c:=Go.Proofs.YtdchjefneblpgaaGreat.dd c _ _) (fun a ae=>h1 a (ae.imp id (fi _))) U;rw[e1]at ae;rcases hD.1 ae with ae | ae
  ·exact h.l l (cS (ij ag).2.2) a ae
  obtain rfl:a=r:=by simpa using ae
  exact h1 a (.inr (eO ..))
 | take l x hk ek ag aa bH=>
  obtain⟨_,r,q,az,e2,e1⟩:=xx bH;obtain⟨h1,U⟩:=h.at aa;have ax:=h.l l (cS (ij ag).2.2);rw[az]at ax;refine (h.dd (i:=dR c.aC p.a p.b) (m:=(dV l).1) fun a ae=>?_).setW (c:=Go.Proofs.YtdchjefneblpgaaGreat.dd c _ _) (fun a ae=>?_) U
  ·rw[e1]at ae;exact ax a (fi _ ae)
  rcases ae with ae | ae
  ·rcases hD.1 ae with ae | ae
   ·exact h1 a (.inl ae)
   obtain rfl:a=_:=by simpa using ae
   rw[e2];exact ax r (eO ..)
  exact h1 a (.inr ae)
 | o4 l hk ek ag ak=>
  rcases xy l with⟨k,_⟩ | ⟨_,_,_,e1⟩
  ·rw[ak]at k;cases k
  refine h.dd fun a ae=>?_
  rw[e1]at ae;exact h.l l (cS (ij ag).2.2) a ae
 | token t x cR hk i' bg aE bH aa pb=>exact h.ev aa
 | pc k n x hk aR aE aa=>
  have:kD F I (Go.Proofs.YtdchjefneblpgaaGreat.setW c p.a (er x n)):=by
   obtain⟨h1,U⟩:=h.at aa;unfold er;split
   ·exact h.setW h1 U
   exact h.setW h1 U
  exact⟨this.w,this.l,this.i⟩
theorem W4{g:bS}{k a b c:Int}{v:Nat}(bF:v<=4)(aR:g.nodes=kv k a b c v){op:Int}(bg:0<=op)(h1:op<g.nodes.length):
  ∃y,gj g op=some y/\((op=0/\y.kind=1/\(y.outs=[1]\/y.outs=[1,6]))\/(op=1/\y.kind=k/\y.outs=[2,5])\/(op=2/\y.kind=4/\y.a=1+a/\(y.outs=[3]\/y.outs=[3,4]))\/
   (op=3/\((y.kind=2/\y.a=b)\/y.kind=3)/\y.outs=[4])\/(op=4/\((y.kind=7/\y.outs=[1])\/(y.kind=8/\y.outs=[])))\/((op=5\/op=6)/\y.kind=8/\y.outs=[])):=by
 unfold gj;rw[bi bg];rw[aR]at h1 ⊢;have e:op=0\/op=1\/op=2\/op=3\/op=4\/op=5\/op=6:=by
  have:(kv k a b c v).length<=7:=by
   have mD:v=0\/v=1\/v=2\/v=3\/v=4:=by omega
   rcases mD with rfl | rfl | rfl | rfl | rfl<;>exact Nat.le_of_ble_eq_true rfl
  omega
 have mD:v=0\/v=1\/v=2\/v=3\/v=4:=by omega
 rcases e with rfl | rfl | rfl | rfl | rfl | rfl | rfl
 ·rcases mD with rfl | rfl | rfl | rfl | rfl
  all_goals exact⟨_,rfl,.inl ⟨rfl,rfl,by first | exact .inl rfl | exact .inr rfl⟩⟩
 ·rcases mD with rfl | rfl | rfl | rfl | rfl
  all_goals exact⟨_,rfl,.inr (.inl ⟨rfl,rfl,rfl⟩)⟩
 ·rcases mD with rfl | rfl | rfl | rfl | rfl
  all_goals exact⟨_,rfl,.inr (.inr (.inl ⟨rfl,rfl,rfl,by first | exact .inl rfl | exact .inr rfl⟩))⟩
 ·rcases mD with rfl | rfl | rfl | rfl | rfl
  all_goals exact⟨_,rfl,.inr (.inr (.inr (.inl ⟨rfl,by first | exact .inr rfl | exact .inl ⟨rfl,rfl⟩,rfl⟩)))⟩
 ·rcases mD with rfl | rfl | rfl | rfl | rfl
  all_goals exact⟨_,rfl,.inr (.inr (.inr (.inr (.inl ⟨rfl,by first | exact .inl ⟨rfl,rfl⟩ | exact .inr ⟨rfl,rfl⟩⟩))))⟩
 ·rcases mD with rfl | rfl | rfl | rfl | rfl
  all_goals exact⟨_,rfl,.inr (.inr (.inr (.inr (.inr ⟨.inl rfl,rfl,rfl⟩))))⟩
 rcases mD with rfl | rfl | rfl | rfl | rfl
 ·exact absurd h1 (by simp[kv,rZ])
 ·exact absurd h1 (by simp[kv,rZ])
 ·exact absurd h1 (by simp[kv,rZ])
 ·exact⟨_,rfl,.inr (.inr (.inr (.inr (.inr ⟨.inr rfl,rfl,rfl⟩))))⟩
 exact absurd h1 (by simp[kv,rZ])
structure xS (A B:Int) (x r:aB) (j:Nat):Prop where
 bh:r.bq.bh=x.bq.bh
 di:0<=r.bq.di/\r.bq.di<=6
 ayJ:(j:Int)<=r.bq.di+(if r.op=4 then 1 else 0)
 val:r.val=x.val+B*j
 key:r.key=(x.key+A*(r.bq.di+(if r.op=3\/r.op=4 then 1 else 0))) % 100
def Form(A B:Int)(xs:List aB)(r:aB):Prop:=∃x∈xs,∃j,xS A B x r j
def mX(op di:Int):Nat:=
 if op=0 then 7 else if op=1 then 1 else if op=2 then (if di<6 then 16 else 10) else if op=3 then (if di<6 then 7 else 4) else if op=4 then (if di<6 then 4 else 1) else 1
def wt(r:aB):Nat:=mX r.op r.bq.di
def su(t:Int):Nat:=if t<6 then 21 else 15
theorem My{x:Node}{r:aB}(aR:aL x=true)(aA:eL r=true)(U:x.kind≠2)(ax:x.kind≠3)(aK:x.kind≠4):dy x r.key r.val=(r.key,r.val,x.kind != 8):=by
 unfold dy;rw[aR,BN aA];simp only[Bool.and_self,fQ,ba U,ba ax,ba aK]
theorem W5{B:Int}{j:Nat}(sA:0<=B/\B<4)(bd:j<=7):0<=B*j/\B*j<=21:=by
 have h:B=0\/B=1\/B=2\/B=3:=by omega
 rcases h with rfl | rfl | rfl | rfl<;>omega
theorem W6{g:bS}{k a b c:Int}{v:Nat}(hk:k=5\/k=6)(aj:0<=b/\b<4)(ae:0<=a/\a<3)(bF:v<=4)(aR:g.nodes=kv k a b c v)(av:et g=true){x r:aB}{j:Nat}(aa:Input x)(bw:xS (1+a) b x r j)
  (aA:jw g r=false) (cs:List Cell):
  c7 (fun q=>wt q+2) (d' g cs r).2.1+1<=wt r+(if r.op=1/\(c5 k cs (cellOf r)).2=true then su r.bq.di else 0)/\∀q∈(d' g cs r).2.1,∃i,xS (1+a) b x q i:=by
 simp only[jw,fB,jx,kA]at aA;obtain⟨bP,bL⟩:=aA;have bg:0<=r.op:=by
  simp only[eL,ar,cm,cr]at bP;omega
 obtain⟨f1,f2,f3,f4,f5⟩:=bw;obtain⟨y,bu,ak⟩:=W4 bF aR bg (by omega);have nk:=W3 av bu;rw[ant av bP bu];rcases ak with⟨aU,jD,hf⟩ | ⟨aU,jD,hf⟩ | ⟨aU,jD,Je,hf⟩ | ⟨aU,jD,hf⟩ | ⟨aU,jD⟩ | ⟨aU,jD,hf⟩
 ·
  rw[My nk bP (by omega) (by omega) (by omega),w8 (by omega) (by omega) (by omega),jD];simp[aU]at f3 f5;rcases hf with hf | hf
  ·refine⟨by simp[fv,hf,c7,wt,mX,aU],fun q az=>?_⟩;simp[fv,hf]at az;subst az;exact⟨j,f1,f2,by simpa using f3,f4,by simpa using f5⟩
  refine⟨by simp[fv,hf,c7,wt,mX,aU],fun q az=>?_⟩;simp[fv,hf]at az;rcases az with rfl | rfl
  ·exact⟨j,f1,f2,by simpa using f3,f4,by simpa using f5⟩
  exact⟨j,f1,f2,by simpa using f3,f4,by simpa using f5⟩
 ·
  rw[My nk bP (by omega) (by omega) (by omega),jD];simp[aU]at f3 f5;have DG:(k != 8)=true:=by rcases hk with rfl | rfl<;>rfl
  have P7:k≠7:=by omega
  cases azu:(c5 k cs (cellOf r)).2 with
  | false=>exact⟨by simp[DG,c7,wt,mX,aU],fun q az=>by simp[DG]at az⟩
  | true=>
   refine⟨?_,fun q az=>?_⟩
   ·simp only[DG,jj,Bool.false_and,oZ,ll,P7,fv,hf,aU,and_self,fQ,reduceCtorEq];simp only[jW,List.map_nil,c7,nf,List.sum_nil,wt,mX,su];by_cases bp:r.bq.di<6
    ·simp[bp,aU]
    simp[bp,aU]
   simp[DG,P7,fv,hf]at az;rcases az with rfl | rfl
   ·exact⟨j,f1,f2,by simpa using f3,f4,by simpa using f5⟩
   exact⟨j,f1,f2,by simpa using f3,f4,by simpa using f5⟩
 ·
  have sE:dy y r.key r.val=((r.key+y.a).tmod 100,r.val,true):=by
   unfold dy;rw[nk,BN bP,jD];rfl
  rw[sE,w8 (by omega) (by omega) (by omega),jD];simp[aU]at f3 f5;have abj:(r.key+y.a).tmod 100=(x.key+(1+a)*(r.bq.di+1)) % 100:=by
   rw[Int.mul_add,Int.mul_one,f5,Je,Int.tmod_eq_emod_of_nonneg (by omega)];generalize (1+a)*r.bq.di=m;omega
  rw[abj];have cE:∃i,xS (1+a) b x ⟨3,r.bq,(x.key+(1+a)*(r.bq.di+1)) % 100,r.val⟩ i:=⟨j,f1,f2,by simpa using f3,f4,by simp⟩
  have l2:∃i,xS (1+a) b x ⟨4,r.bq,(x.key+(1+a)*(r.bq.di+1)) % 100,r.val⟩ i:=⟨j,f1,f2,by dsimp only;rw[bi rfl];omega,f4,by simp⟩
  rcases hf with hf | hf
  ·refine⟨?_,fun q az=>?_⟩
   ·simp only[fv,hf];by_cases bp:r.bq.di<6<;>simp[c7,wt,mX,aU,bp]
   simp[fv,hf]at az;subst az;exact cE
  refine⟨?_,fun q az=>?_⟩
  ·simp only[fv,hf];by_cases bp:r.bq.di<6<;>simp[c7,wt,mX,aU,bp]
  simp[fv,hf]at az;rcases az with rfl | rfl
  ·exact cE
  exact l2
 ·
  simp[aU]at f3 f5;have hm:=W5 aj (j:=j) (by omega);have DL:=W5 aj (j:=j+1) (by omega);obtain⟨_,_,_,_,yw⟩:=aa;rcases jD with⟨jD,Je⟩ | jD
  ·have sE:dy y r.key r.val=(r.key,r.val+b,true):=by
    unfold dy;rw[nk,BN bP,jD];simp only[Bool.and_self,fQ,Je];rw[show less (r.val+b) 999=r.val+b by unfold less;rw[ba (by omega)]]
   rw[sE,w8 (by omega) (by omega) (by omega),jD];refine⟨?_,fun q az=>?_⟩
   ·simp only[fv,hf];by_cases bp:r.bq.di<6<;>simp[c7,wt,mX,aU,bp]
   simp[fv,hf]at az;subst az;refine⟨j+1,f1,f2,by dsimp only;rw[bi rfl];omega,?_,by simpa using f5⟩;dsimp only;rw[f4,Int.natCast_add,Int.mul_add];omega
  have sE:∃z,dy y r.key r.val=(r.key,r.val,z):=by
   unfold dy;rw[nk,BN bP,jD];exact⟨_,rfl⟩
  obtain⟨z,sE⟩:=sE;rw[sE,w8 (by omega) (by omega) (by omega),jD];cases z with
  | false=>
   refine⟨?_,fun q az=>by simp at az⟩;by_cases bp:r.bq.di<6<;>simp[c7,wt,mX,aU,bp]
  | true=>
   refine⟨?_,fun q az=>?_⟩
   ·simp only[fv,hf];by_cases bp:r.bq.di<6<;>simp[c7,wt,mX,aU,bp]
   simp[fv,hf]at az;subst az;exact⟨j,f1,f2,by dsimp only;rw[bi rfl];omega,f4,by simpa using f5⟩
 ·
  simp[aU]at f3 f5;rcases jD with⟨jD,hf⟩ | ⟨jD,hf⟩
  ·rw[My nk bP (by omega) (by omega) (by omega),w8 (by omega) (by omega) (by omega),jD];unfold gJ;by_cases bp:r.bq.di<6
   ·have e5:(iL r.bq&&decide (r.bq.di<6))=true:=by
     simp only[eL,cm]at bP;rw[bP.1.2,iV bp];rfl
    rw[bi e5];refine⟨?_,fun q az=>?_⟩
    ·simp[fv,hf,c7,wt,mX,aU,bp]
    simp[fv,hf]at az;subst az;exact⟨j,f1,⟨by dsimp only;omega,by dsimp only;omega⟩,by simpa using f3,f4,by simpa using f5⟩
   rw[ba (by simp[bp])];refine⟨?_,fun q az=>by simp[bp]at az⟩;simp[c7,wt,mX,aU,bp]
  have a6:∀s cn r5,fv y s cn r5=[]:=fun s cn r5=>by simp[fv,hf]
  simp only[a6,ite_self];refine⟨?_,fun q az=>by cases az⟩;by_cases bp:r.bq.di<6<;>simp[c7,wt,mX,aU,bp]
 -- out
 have a6:∀s cn r5,fv y s cn r5=[]:=fun s cn r5=>by simp[fv,hf]
 simp only[a6,ite_self];refine⟨?_,fun q az=>by cases az⟩;rcases aU with aU | aU<;>simp[c7,wt,mX,aU]
end Go.Proofs.YtdchjefneblpgaaGreat
namespace Go.Proofs.YtdchjefneblpgaaGreat
open Go.Sx Go.RowKit Go.Proofs.Tryz
def mj(c:a8)(b:Bool):List D:=[.J 4 (c.aC.nodes.map Node.e),I c.aC.ap,I c.aC.cap,.J 8 (c.ap.map aQ.e),.J 6 (c.bR.map bD.e),.J 5 (c.tokens.map bT.e),.J 3 (c.news.map cb.e),B b]
abbrev fz(c:a8):List D:=mj c (cK c)
theorem anu(c:a8)(r:Bool)(h:cK c=r)(ak:c.sz<=8388608)(hw:hS c):aw 56 [.agg c.e] [.one (B r)]:=h▸Ls c ak hw
theorem Mz(c:a8)(ak:c.sz<=8388608)(hw:hS c):bZ prog 127 [.ro (.agg c.e)] (.new (fz c)):=
 aij ⟨Vk c ak,Ls c ak hw,ad⟩
variable{i:Nat}
theorem W7{α:Type}{f:α->List D}{xs:List α}{a:α}:(xs.map f).set i (f a)=(xs.set i a).map f:=List.map_set.symm
variable{c:a8}{x:aQ}
theorem r0{i:Int}(h:cp c i=some x):0<=i/\i<(↑(c.ap.map aQ.e).length:Int)/\(c.ap.map aQ.e)[i.toNat]?=some x.e:=by
 obtain⟨h1,U,ax⟩:=eJ h;exact⟨h1,by rw[bA];omega,bW aQ.e ax⟩
theorem uP{i:Int}(h:cp c i=some x)(ak:c.sz<=8388608):x.sz<=8388608:=a8.XY ak (cS (eJ h).2.2)
theorem anv{l:List cb}(hi:i<l.length):([]++((l.map cb.e).drop 0).take (((some (i:Int)).getD (↑(l.map cb.e).length:Int)).toNat-0)++((l.map cb.e).drop ((some ((i:Int)+1)).getD 0).toNat).take ((l.map cb.e).length-((some ((i:Int)+1)).getD 0).toNat))=(cutAt l i).map cb.e:=by
 have e1:((i:Int)+1).toNat=i+1:=by omega
 simp only[cutAt,ji,oX,Nat.sub_zero,tz,List.nil_append,e1,gW,qX,List.map_drop]
 congr 1
 rw[zR (by simp)]
theorem W8{l:List cb}:((l.map cb.e).drop ((some ((i:Int)+1)).getD 0).toNat).take ((l.map cb.e).length-((some ((i:Int)+1)).getD 0).toNat)=(l.drop (i+1)).map cb.e:=by
 have e1:((i:Int)+1).toNat=i+1:=by omega
 simp only[ji,e1,List.map_drop];rw[zR (by simp)]
theorem W9(h:cK c=true){n:cb}(aR:c.news[i]?=some n){w:Int}(hw:(n.dest==w)=true):∃x,cp c w=some x:=by
 have aj:=LA h aR;simp only[kU,ar,fB,jx,cr]at aj;have U:=(fO.1 h).2.1;have e:=eq_of_beq hw;exact pF (by omega) (by omega)
theorem Ft{α:Type}{f:α->List D}(h:∀a,∀d∈f a,∃x,d=.v x){l:List (List D)}{xs:List α}(ag:l=xs.map f):Flat l:=ag▸cM f h xs
theorem amU{w:Int}{n:cb}(h1:c.news.findIdx? (fun n=>n.dest==w)=some i)(bP:cK c=true)(aR:c.news[i]?=some n)(aa:cp c w=some x):lI c w=(f' (setW c w (er x n)) (cutAt c.news i),true):=by
 unfold lI;simp only[h1,bP,fQ,aR,aa]
theorem amV(c:a8)(w:Int)(ak:c.sz<=8388608):bZ prog 247 [.ref (fz c) (fz (lI c w).1),.ro (.one (I w))] (.vals [.one (B (lI c w).2)]):=by
 have ag:=Ev ak;have DN:=fun h=>Tv (c:=c) (w:=w) h
 cases bP:cK c with
 | false=>
  have e:lI c w=(c,false):=by
   unfold lI;split<;>simp[bP]
  rw[e];simp only[fz,bP];cases aR:c.news with
  | nil=>
   have l:c' prog (aq f247 0) (qB w 0 (c.aC.nodes.map Node.e) c.aC.ap c.aC.cap (c.ap.map aQ.e) (c.bR.map bD.e) (c.tokens.map bT.e) (c.news.map cb.e) false) (.exit 0) _:=.last (cC 0) (Vg ⟨by simp[aR],ad⟩);exact K6 ⟨l,ad⟩
  | cons a l=>
   have l:c' prog (aq f247 0) (qB w 0 (c.aC.nodes.map Node.e) c.aC.ap c.aC.cap (c.ap.map aQ.e) (c.bR.map bD.e) (c.tokens.map bT.e) (c.news.map cb.e) false) (.exit 0) _:=.last (cC 0) (ain ⟨bU (by simp[aR]<;>omega),rfl,ad⟩);exact K6 ⟨l,ad⟩
 | true=>
  have DN:=DN bP;have l:=hM (P:=prog) (c:=(aq f247 0)) c.news (fun n=>n.dest==w) (fun i=>qB w i (c.aC.nodes.map Node.e) c.aC.ap c.aC.cap (c.ap.map aQ.e) (c.bR.map bD.e) (c.tokens.map bT.e) (c.news.map cb.e) true)
   (X:=fun i n=>match cp c w with
    | some x=>FK true (c.aC.nodes.map Node.e) c.aC.ap c.aC.cap ((setW c w (er x n)).ap.map aQ.e) (c.bR.map bD.e) (c.tokens.map bT.e) ((cutAt c.news i).map cb.e) true
    | none=>⟨[],[]⟩) dZ (cC 0)
   (fun i a ae h=>aik ⟨bV (aP ae),rfl,bk,bm (aP ae),bl cb.e ae,by simp only[bne,h];rfl,c3 (aP ae) ag,ad⟩)
   (fun i a ae h=>by
    obtain⟨x,aa⟩:=W9 bP ae h;have hi:=aP ae;obtain⟨w0,w1,lg⟩:=r0 aa;have ai:=uP aa ak;simp only[aa];rw[<-anv hi];cases aE:eV x a.bh with
    | true=>
     rw[show er x a=x by unfold er;rw[aE];rfl,u2 aa];exact aim ⟨bV hi,rfl,bk,bm hi,bl cb.e ae,by simp only[bne,h];rfl,by simp,by simp,by simp;omega,by simp;omega,by simp;omega,Ft (xs:=c.news.take i) cb.flat (by simp),c3 hi ag,by simp;omega,by simp;omega,by simp,by simp;omega,by simp;omega,Ft (xs:=c.news.drop (i+1)) cb.flat W8,w0,w1,lg,LX x a.bh true aE ai,rfl,ad⟩
    | false=>
     have sI:x.b'.length<=8388608:=by simp only[aQ.sz]at ai;omega
     have e2:(setW c w (er x a)).ap.map aQ.e=(c.ap.map aQ.e).set w.toNat (told x a.bh a.cw).e:=by
      rw[show er x a=told x a.bh a.cw by unfold er;rw[aE];rfl];exact W7.symm
     rw[e2];have ck:(told x a.bh a.cw).e=[.J 5 (x.queue.map aB.e),.J 5 (x.b3.map aB.e),.J 5 (x.bK.map aB.e),.J 4 (x.cells.map Cell.e),.J 1 (x.bG.map bb),.J 1 (x.bN.map cy),.J 1 (x.bB.map cy),.J 2 (x.b'.map cx.e++[[I a.bh,B a.cw]])]:=by
      simp only[told,aQ.e,gW];rfl
     rw[ck];exact ail ⟨bV hi,rfl,bk,bm hi,bl cb.e ae,by simp only[bne,h];rfl,by simp,by simp,by simp;omega,by simp;omega,by simp;omega,Ft (xs:=c.news.take i) cb.flat (by simp),c3 hi ag,by simp;omega,by simp;omega,by simp,by simp;omega,by simp;omega,Ft (xs:=c.news.drop (i+1)) cb.flat W8,w0,w1,lg,LX x a.bh false aE ai,rfl,w0,w1,lg,by simp;omega,by simp;omega,lg,rfl,dU (cx.flat ⟨a.bh,a.cw⟩),rfl,rfl,rfl,rfl,rfl,rfl,rfl,rfl,rfl,rfl,rfl,w0,w1,lg,rfl,ad⟩)
   (Vg ⟨dk,ad⟩)
  rcases l with⟨_,h1,_,U⟩ | ⟨i,a,ae,hp,_,h1,_,U⟩
  ·have e:lI c w=(c,false):=by unfold lI;simp only[h1]
   rw[e];simp only[fz,bP];exact K6 ⟨U,ad⟩
  obtain⟨x,aa⟩:=W9 bP ae hp;rw[amU h1 bP ae aa]at DN ⊢;simp only[aa]at U;simp only[fz,bP,DN];exact aio ⟨U,ad⟩
end Go.Proofs.YtdchjefneblpgaaGreat
namespace Go.Proofs.YtdchjefneblpgaaGreat
open Go.Sx Go.RowKit Go.Proofs.Tryz
theorem ZU(a b:Nat):(((a:Int)+(b:Int))==0)=(a+b==0):=by
 rw[Bool.eq_iff_iff];simp only[ed];omega
theorem amW(w:aQ)(e:Int)(hw:w.sz<=8388608):aw 342 [.agg w.e,.one (I e)] [.one (B (B6 w e))]:=by
 have ag:w.bK.length<=8388608:=by simp only[aQ.sz]at hw;omega
 have l:=hM (P:=prog) (c:=(aq f342 0)) w.bK (fun r=>decide (r.bq.bh<=e)) (fun i=>xq (w.queue.map aB.e) (w.b3.map aB.e) (w.bK.map aB.e) (w.cells.map Cell.e) (w.bG.map bb) (w.bN.map cy) (w.bB.map cy) (w.b'.map cx.e) e i) (X:=fun _ _=>K7 true) dZ (cC 0)
  (fun i a ae h=>ajz ⟨bV (aP ae),bk,bm (aP ae),bl aB.e ae,h,c3 (aP ae) ag,ad⟩)
  (fun i a ae h=>ajy ⟨bV (aP ae),bk,bm (aP ae),bl aB.e ae,h,ad⟩)
  (ajA ⟨dk,ad⟩)
 unfold B6;rcases l with⟨_,_,h1,U⟩ | ⟨i,a,_,_,_,_,h1,U⟩
 ·rw[h1];exact ajC ⟨U,ad⟩
 rw[h1];exact ajB ⟨U,ad⟩
theorem amX(w:aQ)(e:Int)(hw:w.sz<=8388608):aw 343 [.agg w.e,.one (I e)] [.one (I ((↑((gH e w.queue).map aB.e).length:Int)+(↑((gH e w.b3).map aB.e).length:Int)))]:=by
 simp only[aQ.sz]at hw;have cG:(gH e w.queue).length<=w.queue.length:=r9 _ _;have cg:(gH e w.b3).length<=w.b3.length:=r9 _ _;exact ajF ⟨LU w.queue e (by omega),LU w.b3 e (by omega),⟨by simp only[bA];omega,by simp only[bA];omega⟩,ad⟩
theorem amY(w:aQ)(e:Int)(hw:w.sz<=8388608):aw 316 [.agg w.e,.one (I e)] [.one (B (lc w e))]:=by
 have o:=amW w e hw;unfold lc;cases h:B6 w e with
 | true=>rw[h]at o;exact ajE ⟨o,rfl,ad⟩
 | false=>
  rw[h]at o;have a:=amX w e hw;rw[bA,bA]at a;have b:=ajD ⟨o,rfl,a,ad⟩;rw[ZU]at b;exact b
theorem W'(w:aQ)(e:Int)(r:Bool)(h:lc w e=r)(hw:w.sz<=8388608):aw 316 [.agg w.e,.one (I e)] [.one (B r)]:=h▸amY w e hw
end Go.Proofs.YtdchjefneblpgaaGreat
namespace Go.Proofs.YtdchjefneblpgaaGreat
open Go.Sx Go.RowKit Go.Proofs.Tryz
variable{c:a8}
theorem amZ{i:Int}{t:bT}(h:g' c i=some t):0<=i/\i<(↑(c.tokens.map bT.e).length:Int)/\(c.tokens.map bT.e)[i.toNat]?=some t.e:=by
 obtain⟨h1,U,ax⟩:=xn h;exact⟨h1,by rw[bA];omega,bW bT.e ax⟩
variable{e:Int}
theorem Jk{xs:List Int}(aK:xs.length=4)(he:0<=e/\e<=3):e<(↑(xs.map bb).length:Int)/\(xs.map bb)[e.toNat]?=some [I (xs.getD e.toNat 0)]:=by
 have ag:e.toNat<xs.length:=by omega
 refine⟨by rw[bA];omega,?_⟩;rw[du,h4 ag,iv,h4 ag];rfl
theorem x3{xs:List Bool}(aK:xs.length=4)(he:0<=e/\e<=3):e<(↑(xs.map cy).length:Int)/\(xs.map cy)[e.toNat]?=some [B (xs.getD e.toNat false)]:=by
 have ag:e.toNat<xs.length:=by omega
 refine⟨by rw[bA];omega,?_⟩;rw[du,h4 ag,iv,h4 ag];rfl
theorem sv{l:List (List D)}{i:Int}{a:List D}(bg:0<=i)(h:i<(↑l.length:Int)):(l.set i.toNat a)[i.toNat]?=some a:=List.getElem?_set_self (by omega)
theorem Xa(x:aQ)(e:Int):(eC x e).e=[.J 5 (x.queue.map aB.e),.J 5 (x.b3.map aB.e),.J 5 (x.bK.map aB.e),.J 4 (x.cells.map Cell.e),.J 1 (x.bG.map bb),.J 1 ((x.bN.map cy).set e.toNat [B false]),.J 1 (x.bB.map cy),.J 2 (x.b'.map cx.e)]:=by
 simp only[eC,aQ.e,jV];rfl
theorem am0(x:aQ)(e:Int)(b:Bool):(told x e b).e=[.J 5 (x.queue.map aB.e),.J 5 (x.b3.map aB.e),.J 5 (x.bK.map aB.e),.J 4 (x.cells.map Cell.e),.J 1 (x.bG.map bb),.J 1 (x.bN.map cy),.J 1 (x.bB.map cy),.J 2 (x.b'.map cx.e++[[I e,B b]])]:=by
 simp only[told,aQ.e,gW];rfl
theorem Xb(c:a8)(e p:Int)(t:bT)(y:aQ)(b:Bool):mj (setW (cY c e t) p y) b=[.J 4 (c.aC.nodes.map Node.e),I c.aC.ap,I c.aC.cap,.J 8 ((c.ap.map aQ.e).set p.toNat y.e),.J 6 (c.bR.map bD.e),.J 5 ((c.tokens.map bT.e).set e.toNat t.e),.J 3 (c.news.map cb.e),B b]:=by
 simp only[setW,cY,mj,jV]
theorem am1(c:a8)(e:Int)(t:bT)(b:Bool):mj (cY c e t) b=[.J 4 (c.aC.nodes.map Node.e),I c.aC.ap,I c.aC.cap,.J 8 (c.ap.map aQ.e),.J 6 (c.bR.map bD.e),.J 5 ((c.tokens.map bT.e).set e.toNat t.e),.J 3 (c.news.map cb.e),B b]:=by
 simp only[cY,mj,jV]
theorem am2(n:Nat)(e:Int)(b:Bool):hn (n+1) e b=hn n e b++[⟨(n:Int)+1,e,b⟩]:=by simp[hn,List.range_succ]
theorem am3(n:Nat)(e:Int)(b:Bool):(hn n e b).length=n:=by simp[hn]
theorem aox{cR x:aQ}{t:bT}(ok:cK c=true)(he:ar e 0 3=true)(bg:cp c 0=some cR)(bH:g' c e=some t)(aE:eV cR e=false)(aa:cp c t.place=some x):kV c e=ev c e t x:=by
 unfold kV;simp only[ok,he,Bool.and_self,fQ,bg,bH,aE,oZ,ll,aa]
theorem aoy(ok:cK c=true)(he:ar e 0 3=true):∃cR t x,cp c 0=some cR/\g' c e=some t/\cp c t.place=some x/\0<c.ap.length/\c.ap.length<=4/\
  (0<=t.place/\t.place<=3)/\(t.going=false->t.place=0)/\(-1000000<=t.sum/\t.sum<=1000000)/\x.bG.length=4/\x.bN.length=4/\x.bB.length=4/\(-1000000<=x.bG.getD e.toNat 0/\x.bG.getD e.toNat 0<=1000000):=by
 obtain⟨h1,U,ax,aK,a7,bp,b6,dn⟩:=fO.1 ok;have aR:=je h1;obtain⟨cR,bg⟩:=pF (c:=c) (i:=0) (by omega) (by omega);obtain⟨t,bH⟩:=TU ok he;obtain⟨t1,t2,t3⟩:=rW.1 (zh ok bH);obtain⟨x,aa⟩:=pF (c:=c) (i:=t.place) (by omega) (by omega);obtain⟨_,_,_,_,kb,ot,kq,_,sW,_⟩:=hZ.1 (jO ok aa);refine⟨cR,t,x,bg,bH,aa,by omega,by omega,by omega,t2,t3,kb,ot,kq,?_⟩;simp only[ar,cr]at he;have ag:e.toNat<x.bG.length:=by omega
 rw[fh]at sW;have:=sW _ (zP ag);rw[iv,h4 ag,ji];simpa only[nU,fP,jx,ar,cr,vx,Bool.not_not,Bool.not_eq_eq_eq_not,jj,kA,Classical.not_not]using this
theorem Xc(c:a8)(e:Int)(x:aQ)(r:Bool)(bg:cp c 0=some x)(aE:eV x e=r)(ak:c.sz<=8388608):aw 315 [.agg c.e,.one (I e)] [.one (B r)]:=by
 obtain⟨w0,w1,lg⟩:=r0 bg;exact ajx ⟨bU (by omega),w0,w1,lg,LX x e r aE (uP bg ak),ad⟩
theorem aoz(c:a8)(b:Bool)(x:aQ)(e:Int)(cap:Bool)(bg:cp c 0=some x)(aK:c.ap.length<=4)(ak:c.sz<=8388608):
  bZ prog 317 [.ref (mj c b) (mj (f' (setW c 0 (told x e cap)) (c.news++hn (c.ap.length-1) e cap)) b),.ro (.one (I e)),.ro (.one (B cap))] (.vals []):=by
 obtain⟨w0,w1,lg⟩:=r0 bg;have aR:=Ev ak;have ai:=uP bg ak;have sI:x.b'.length<=8388608:=by simp only[aQ.sz]at ai;omega
 have hlen:=(eJ bg).2.1;have tS:((setW c 0 (told x e cap)).ap.map aQ.e).length=c.ap.length:=by simp[setW]
 have l:=e6 (P:=prog) (c:=(aq f317 0)) (cC 0) (c.ap.length-1) (fun i:Nat=>Ce e cap ((i:Int)+1) (c.aC.nodes.map Node.e) c.aC.ap c.aC.cap ((setW c 0 (told x e cap)).ap.map aQ.e) (c.bR.map bD.e) (c.tokens.map bT.e) ((c.news++hn i e cap).map cb.e) b) (fun i hi=>by
  have hm:=am3 i e cap;rw[am2,<-tw,gW (l₂:=[_])];exact aip ⟨bU (by rw[tS];omega),by simp;omega,by simp;omega,dU (cb.flat ⟨(i:Int)+1,e,cap⟩),⟨by omega,by omega⟩,ad⟩) (aiq ⟨bY (by rw[tS];omega),ad⟩)
 have e2:(setW c 0 (told x e cap)).ap.map aQ.e=(c.ap.map aQ.e).set 0 [.J 5 (x.queue.map aB.e),.J 5 (x.b3.map aB.e),.J 5 (x.bK.map aB.e),.J 4 (x.cells.map Cell.e),.J 1 (x.bG.map bb),.J 1 (x.bN.map cy),.J 1 (x.bB.map cy),.J 2 (x.b'.map cx.e++[[I e,B cap]])]:=by
  rw[<-am0];exact W7.symm
 have bM:hn 0 e cap=[]:=rfl;rw[e2,bM,lL]at l;have gB:mj (f' (setW c 0 (told x e cap)) (c.news++hn (c.ap.length-1) e cap)) b=[.J 4 (c.aC.nodes.map Node.e),I c.aC.ap,I c.aC.cap,.J 8 ((setW c 0 (told x e cap)).ap.map aQ.e),.J 6 (c.bR.map bD.e),.J 5 (c.tokens.map bT.e),.J 3 ((c.news++hn (c.ap.length-1) e cap).map cb.e),B b]:=rfl;rw[gB,e2];exact air ⟨by omega,w1,lg,by simp;omega,by simp;omega,lg,rfl,dU (cx.flat ⟨e,cap⟩),rfl,rfl,rfl,rfl,rfl,rfl,rfl,by omega,w1,lg,rfl,l,ad⟩
theorem aoA(c:a8)(e:Int)(ak:c.sz<=8388608):bZ prog 246 [.ref (fz c) (fz (kV c e).1),.ro (.one (I e))] (.vals [.one (B (kV c e).2)]):=by
 have post:=fun h=>Tu (c:=c) (e:=e) h
 cases ok:cK c with
 | false=>
  rw[show kV c e=(c,false) by unfold kV;simp[ok]];simp only[fz,ok];exact ahR ⟨rfl,ad⟩
 | true=>
 replace post:=post ok;cases he:ar e 0 3 with
 | false=>
  rw[show kV c e=(c,false) by unfold kV;simp[he]];simp only[fz,ok];exact ahS ⟨rfl,fD _ he,rfl,ad⟩
 | true=>
 have he:=he;obtain⟨cR,t,x,bg,bH,aa,DI,Ay,abP,aa3,azw,sP,yh,yj,yy⟩:=aoy ok he;have vX:0<=e/\e<=3:=by simpa only[ar,cr]using he
 obtain⟨e0,jS,jT⟩:=amZ bH;obtain⟨ec,ea,eD⟩:=r0 aa;obtain⟨az6,az7,az8⟩:=r0 bg;obtain⟨qR,qS⟩:=Jk sP vX;obtain⟨qm,ov⟩:=x3 yh vX;obtain⟨Dl,Dm⟩:=x3 yj vX;have eT:=uP aa ak;have sI:x.b'.length<=8388608:=by simp only[aQ.sz]at eT;omega
 have Ij:(↑(c.ap.map aQ.e).length:Int)=(c.ap.length:Int):=by rw[bA]
 cases aE:eV cR e with
 | true=>
  rw[show kV c e=(c,false) by unfold kV;simp only[ok,he,Bool.and_self,fQ,bg,bH,aE]];simp only[fz,ok];exact ahT ⟨rfl,fD _ he,rfl,Xc c e cR true bg aE ak,rfl,ad⟩
 | false=>
 rw[aox ok he bg bH aE aa]at post ⊢;have rd:=Xc c e cR false bg aE ak;have pO:=fD _ he;cases hp:lc x e with
 | false=>
  rw[show ev c e t x=(c,false) by unfold ev;simp[hp]];simp only[fz,ok];exact ahU ⟨rfl,pO,rfl,rd,rfl,e0,jS,jT,ec,ea,eD,W' x e _ hp eT,rfl,ad⟩
 | true=>
 have qv:=W' x e _ hp eT;have mv:aG .i64 (t.sum+x.bG.getD e.toNat 0):=⟨by omega,by omega⟩
 simp only[fz,ok,post];clear post;obtain⟨XS,vp,ts,tb,gU⟩:=t;dsimp only at*;cases XS with
 | false=>
  obtain rfl:vp=0:=aa3 rfl;rw[show ev c e ⟨false,0,ts,tb,gU⟩ x=(setW (cY c e ⟨true,(c.ap.length:Int)-1,0,false,x.bB.getD e.toNat false⟩) 0 (eC x e),true) by simp only[ev,hp,fQ,pR]];dsimp only;rw[Xb,Xa,<-Ij];exact ahV ⟨rfl,pO,rfl,rd,rfl,e0,jS,jT,ec,ea,eD,qv,rfl,e0,qR,qS,mv,rfl,⟨by omega,by omega⟩,e0,Dl,Dm,e0,jS,jT,by omega,ea,eD,e0,qm,ov,eD,rfl,rfl,rfl,rfl,rfl,ad⟩
 | true=>
 by_cases mA:0<vp
 case pos=>
  have nn:decide (vp>0)=true:=bU mA;cases aA:ar (ts+x.bG.getD e.toNat 0) (-1000000) 1000000 with
  | false=>
   rw[show ev c e ⟨true,vp,ts,tb,gU⟩ x=(c,false) by simp only[ev,hp,fQ,jj,oZ,ll,mA,aA]];exact ahW ⟨rfl,pO,rfl,rd,rfl,e0,jS,jT,ec,ea,eD,qv,rfl,e0,qR,qS,mv,rfl,nn,fD _ aA,rfl,ad⟩
  | true=>
   have e1:ev c e ⟨true,vp,ts,tb,gU⟩ x=(setW (cY c e ⟨true,vp-1,ts+x.bG.getD e.toNat 0,tb||x.bN.getD e.toNat false,gU||x.bB.getD e.toNat false⟩) vp (eC x e),true):=by
    simp only[ev,hp,fQ,jj,oZ,ll,mA,aA]
   rw[e1];dsimp only;rw[Xb,Xa];have wr:=fD _ aA;cases tb with
   | true=>
    cases gU with
    | true=>exact ahX ⟨rfl,pO,rfl,rd,rfl,e0,jS,jT,ec,ea,eD,qv,rfl,e0,qR,qS,mv,rfl,nn,wr,rfl,⟨by omega,by omega⟩,rfl,rfl,e0,jS,jT,ec,ea,eD,e0,qm,ov,eD,rfl,rfl,rfl,rfl,rfl,ad⟩
    | false=>exact ahY ⟨rfl,pO,rfl,rd,rfl,e0,jS,jT,ec,ea,eD,qv,rfl,e0,qR,qS,mv,rfl,nn,wr,rfl,⟨by omega,by omega⟩,rfl,rfl,e0,Dl,Dm,e0,jS,jT,ec,ea,eD,e0,qm,ov,eD,rfl,rfl,rfl,rfl,rfl,ad⟩
   | false=>
    cases gU with
    | true=>exact ahZ ⟨rfl,pO,rfl,rd,rfl,e0,jS,jT,ec,ea,eD,qv,rfl,e0,qR,qS,mv,rfl,nn,wr,rfl,⟨by omega,by omega⟩,rfl,e0,qm,ov,rfl,e0,jS,jT,ec,ea,eD,e0,qm,ov,eD,rfl,rfl,rfl,rfl,rfl,rfl,rfl,ad⟩
    | false=>exact ah0 ⟨rfl,pO,rfl,rd,rfl,e0,jS,jT,ec,ea,eD,qv,rfl,e0,qR,qS,mv,rfl,nn,wr,rfl,⟨by omega,by omega⟩,rfl,e0,qm,ov,rfl,e0,Dl,Dm,e0,jS,jT,ec,ea,eD,e0,qm,ov,eD,rfl,rfl,rfl,rfl,rfl,rfl,rfl,ad⟩
 case neg=>
  obtain rfl:vp=0:=by omega
  have nn:decide ((0:Int)>0)=false:=rfl;have e1:=fun b=>am1 c e ⟨false,0,ts,tb,gU⟩ b
  have ends:=fun cap=>aoz (cY c e ⟨false,0,ts,tb,gU⟩) true x e cap (B9.trans aa) Ay (by rw[FH];exact ak)
  rw[e1]at ends;cases tb with
  | true=>
   rw[show ev c e ⟨true,0,ts,true,gU⟩ x=(cY c e ⟨false,0,ts,true,gU⟩,true) by simp[ev,hp]];dsimp only;rw[e1];exact ajw ⟨rfl,pO,rfl,rd,rfl,e0,jS,jT,ec,ea,eD,qv,rfl,e0,qR,qS,mv,rfl,nn,e0,jS,jT,rfl,ad⟩
  | false=>
  cases hk:x.bN.getD e.toNat false with
  | true=>
   rw[hk]at ov;rw[show ev c e ⟨true,0,ts,false,gU⟩ x=(cY c e ⟨false,0,ts,false,gU⟩,true) by unfold ev;simp only[hp,hk];rfl];dsimp only;rw[e1];exact ajv ⟨rfl,pO,rfl,rd,rfl,e0,jS,jT,ec,ea,eD,qv,rfl,e0,qR,qS,mv,rfl,nn,e0,jS,jT,rfl,e0,qm,ov,rfl,ad⟩
  | false=>
  rw[hk]at ov;cases a6:(ts+x.bG.getD e.toNat 0==0) with
  | false=>
   rw[show ev c e ⟨true,0,ts,false,gU⟩ x=(cY c e ⟨false,0,ts,false,gU⟩,true) by unfold ev;simp only[hp,hk,a6];rfl];dsimp only;rw[e1];exact aju ⟨rfl,pO,rfl,rd,rfl,e0,jS,jT,ec,ea,eD,qv,rfl,e0,qR,qS,mv,rfl,nn,e0,jS,jT,rfl,e0,qm,ov,rfl,a6,ad⟩
  | true=>
  rw[show ev c e ⟨true,0,ts,false,gU⟩ x=(f' (setW (cY c e ⟨false,0,ts,false,gU⟩) 0 (told x e (gU||x.bB.getD e.toNat false))) (c.news++hn (c.ap.length-1) e (gU||x.bB.getD e.toNat false)),true) by unfold ev;simp only[hp,hk,a6];rfl];cases gU with
  | true=>exact ajs ⟨rfl,pO,rfl,rd,rfl,e0,jS,jT,ec,ea,eD,qv,rfl,e0,qR,qS,mv,rfl,nn,e0,jS,jT,rfl,e0,qm,ov,rfl,a6,rfl,ends true,ad⟩
  | false=>exact ajt ⟨rfl,pO,rfl,rd,rfl,e0,jS,jT,ec,ea,eD,qv,rfl,e0,qR,qS,mv,rfl,nn,e0,jS,jT,rfl,e0,qm,ov,rfl,a6,rfl,e0,Dl,Dm,ends _,ad⟩
