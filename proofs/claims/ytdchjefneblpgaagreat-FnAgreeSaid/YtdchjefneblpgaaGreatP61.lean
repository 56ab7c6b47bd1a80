import Derived.Test.YtdchjefneblpgaaGreatT5
import Derived.Test.YtdchjefneblpgaaGreatR35
import Derived.Test.YtdchjefneblpgaaGreatGD
import Derived.Test.YtdchjefneblpgaaGreatP52
set_option linter.unusedVariables false
set_option linter.unusedSimpArgs false
namespace Go.Proofs.YtdchjefneblpgaaGreat
open Go.Sx Go.RowKit Go.Proofs.Tryz
def lR(n:Int):List D:=[.v (.int .u8 n)]
structure h9 where
 i:Int
 h:Int
def h9.e(b:List Int)(c:h9):List D:=[.J 1 (b.map lR),I c.i,I c.h]
def Bytes(b:List Int):Prop:=b.length<=8388608/\∀x∈b,0<=x/\x<=255
def h9.ok(b:List Int)(c:h9):Prop:=Bytes b/\0<=c.i/\c.i<=b.length
theorem avt{P:Program}{t:TypeId}{ds:List D}(hu:P.underlying t=some (.int .u8))(h:kJ P t ds):∃n,ds=lR n/\0<=n/\n<=255:=by
 have U:∃n,ds=[.v (.int .u8 n)]/\(Lit.int .u8 n).wf=true:=by cases h<;>simp_all
 obtain⟨n,e,hw⟩:=U;refine⟨n,e,?_⟩;simp[Lit.wf]at hw;have ax:IntKind.u8.min=0:=rfl;rw[ax]at hw;exact hw
theorem ajC:prog.cellsOf 5=1:=by kernel_rfl
theorem ajD{ds:List D}(h:kJ prog 22 ds):∃xs:List Int,ds=[.J 1 (xs.map lR)]/\(xs.length:Int)<=9223372036854775807/\∀a∈xs,(fun n=>0<=n/\n<=255) a:=
 aoe lR (fun n=>0<=n/\n<=255) Tryz.underlying22 ajC (fun ds h=>avt Tryz.underlying5 h) h
theorem ajE{cn:cK}(h:DG prog 22 cn):∃xs:List Int,cn=.one (.J 1 (xs.map lR))/\(xs.length:Int)<=9223372036854775807/\∀a∈xs,(fun n=>0<=n/\n<=255) a:=by
 cases cn with
 | agg ds=>have:=h.2;simp[sZ,Tryz.underlying22]at this
 | one d=>
  obtain⟨x,e,aa⟩:=ajD h.1;obtain rfl:=(XZ e).1;exact⟨x,rfl,aa⟩
theorem Vv{P:Program}(a:Int)(n:Nat):∃m:Int,∀t x y,mZ P .shr t x y (.int .i64 a) (.int .u64 (n:Int)) (.int .i64 m):=⟨_,fun _ _ _=>ait⟩
theorem ajF{P:Program}(a b:Int):∃m:Int,∀t x y,mZ P .xor t x y (.int .i64 a) (.int .i64 b) (.int .i64 m):=⟨_,fun _ _ _=>ajU⟩
theorem M8{P:Program}(a:Int)(k:Nat)(hk:k<2 ^ 62):∃m:Int,(0<=m/\m<=k)/\∀t x y,mZ P .and t x y (.int .i64 a) (.int .i64 (k:Int)) (.int .i64 m):=⟨_,ajW a k hk,fun _ _ _=>ajV⟩
theorem Vw(b:List Int)(ao:Bytes b):∀(n i:Nat) (h:Int),i+n=b.length->0<=h/\h<=1073741823->∃gM,c6 prog (av f117 0) (zS (b.map lR) i h) (.exit 0) (Gu (b.map lR) gM)
 | 0,i,h,hi,bC=>⟨h,.last (cL 0) (ajZ ⟨by rw[lr,bk];omega,ae⟩)⟩
 | n+1,i,h,hi,bC=>by
  have aj:=ao.1;obtain⟨x,aa⟩:=dm (xs:=b) (i:=i) (by omega);have ao:=ao.2 x (cG aa);by_cases aF:(i:Int)<4000
  ·obtain⟨m,hm,r⟩:=M8 (P:=prog) (h*131+x+7) 1073741823 (by decide);obtain⟨gM,l⟩:=Vw b ‹Bytes b› n (i+1) m (by omega) hm;exact⟨gM,.more (ajX ⟨b4 (by omega),nh aF,⟨by omega,by omega⟩,bH,bL (by omega),bI lR aa,⟨by omega,by omega⟩,⟨by omega,by omega⟩,⟨by omega,by omega⟩,r _ _ _,⟨by omega,by omega⟩,ae⟩) l⟩
  exact⟨h,.last (cL 0) (ajY ⟨b4 (by omega),oN aF,ae⟩)⟩
theorem ajG(b:List Int)(ao:Bytes b):∃c:h9,c.ok b/\dC prog 117 [.ro (.one (.J 1 (b.map lR)))] (.kf [some 0,none,none] (c.e b)):=by
 have aj:=ao.1;obtain⟨gM,l⟩:=Vw b ao b.length 0 (94701+(↑(b.map lR).length:Int)) (by omega) ⟨by omega,by simp;omega⟩;exact⟨⟨0,gM⟩,⟨ao,by dsimp only;omega,by dsimp only;omega⟩,aj0 ⟨⟨by omega,by simp;omega⟩,l,ae⟩⟩
theorem Gv(b:List Int)(c:h9)(af:c.ok b):∃(d:h9) (n:Int),d.ok b/\(0<=n/\n<=255)/\dC prog 253 [.cur (c.e b) (d.e b)] (.vals [.one (I n)]):=by
 obtain⟨⟨h1,U⟩,ax,aF⟩:=af;obtain⟨ku,eE⟩:=Vv (P:=prog) (IntKind.i64.wrap (IntKind.i64.wrap (c.h*6364136223846793005)+1442695040888963407)) 33;obtain⟨jh,js⟩:=Vv (P:=prog) (IntKind.i64.wrap (IntKind.i64.wrap (c.h*6364136223846793005)+1442695040888963407)) 45;obtain⟨kv,nU⟩:=ajF (P:=prog) ku jh;obtain⟨n6,m6,pG⟩:=M8 (P:=prog) kv 255 (by decide);by_cases hi:c.i<b.length
 ·obtain⟨x,aa⟩:=dm (xs:=b) (i:=c.i.toNat) (by omega);have ao:=U x (cG aa);obtain⟨n8,m8,ava⟩:=M8 (P:=prog) (IntKind.i64.wrap (n6+IntKind.i64.wrap x)) 255 (by decide);exact⟨⟨c.i+1,IntKind.i64.wrap (IntKind.i64.wrap (c.h*6364136223846793005)+1442695040888963407)⟩,n8,⟨⟨h1,U⟩,by dsimp only;omega,by dsimp only;omega⟩,m8,aj1 ⟨eE _ _ _,js _ _ _,nU _ _ _,pG _ _ _,by rw[b',bk];exact hi,ax,by rw[bk];exact hi,by rw[dG,aa];rfl,ava _ _ _,⟨by omega,by omega⟩,ae⟩⟩
 exact⟨⟨c.i,IntKind.i64.wrap (IntKind.i64.wrap (c.h*6364136223846793005)+1442695040888963407)⟩,n6,⟨⟨h1,U⟩,ax,aF⟩,m6,aj2 ⟨eE _ _ _,js _ _ _,nU _ _ _,pG _ _ _,by rw[lr,bk];exact hi,ae⟩⟩
theorem mq(b:List Int)(c:h9)(k:Int)(af:c.ok b)(hk:1<=k/\k<=1000000):∃(d:h9) (n:Int),d.ok b/\(0<=n/\n<k)/\dC prog 138 [.cur (c.e b) (d.e b),.ro (.one (I k))] (.vals [.one (I n)]):=by
 have md:∀m:Int,0<=m->0<=m.tmod k/\m.tmod k<k:=fun m hm=>⟨Int.tmod_nonneg _ hm,Int.tmod_lt_of_pos m (by omega)⟩
 obtain⟨d1,hD,dR,eU,cw⟩:=Gv b c af;by_cases h:k<=256
 ·exact⟨d1,_,dR,md hD eU.1,aj3 ⟨oN (by omega),nh h,cw,by omega,ae⟩⟩
 obtain⟨d2,ih,dH,fH,dt⟩:=Gv b d1 dR;obtain⟨d3,ku,gF,mE,eE⟩:=Gv b d2 dH;obtain⟨d4,jh,ph,HI,js⟩:=Gv b d3 gF;exact⟨d4,_,ph,md _ (by omega),aj4 ⟨oN (by omega),oN h,cw,dt,eE,js,⟨by omega,by omega⟩,⟨by omega,by omega⟩,⟨by omega,by omega⟩,⟨by omega,by omega⟩,⟨by omega,by omega⟩,⟨by omega,by omega⟩,by omega,ae⟩⟩
theorem Vx(b:List Int)(c:h9)(k:Int)(af:c.ok b)(hk:1<=k/\k<=1000000):∃(d:h9) (x:Bool),d.ok b/\dC prog 136 [.cur (c.e b) (d.e b),.ro (.one (I k))] (.vals [.one (B x)]):=by
 obtain⟨d,n,o,_,r⟩:=mq b c k af hk;exact⟨d,_,o,aj5 ⟨r,ae⟩⟩
theorem ajH(b:List Int)(c:h9)(xs:List Int)(af:c.ok b)(hk:1<=xs.length/\xs.length<=1000):∃(d:h9) (n:Int),d.ok b/\n∈xs/\dC prog 140 [.cur (c.e b) (d.e b),.ro (.one (.J 1 (xs.map ba)))] (.vals [.one (I n)]):=by
 obtain⟨d,n,o,ao,r⟩:=mq b c (xs.length:Int) af (by omega);obtain⟨x,aa⟩:=dm (xs:=xs) (i:=n.toNat) (by omega);refine⟨d,x,o,cG aa,aj6 ⟨?_,ao.1,by rw[bk];exact ao.2,by rw[dG,aa];rfl,ae⟩⟩;rw[bk];exact r
end Go.Proofs.YtdchjefneblpgaaGreat
namespace Go.Proofs.YtdchjefneblpgaaGreat
open Go.Sx Go.RowKit Go.Proofs.Tryz
def Input(r:aE):Prop:=r.op=0/\r.bh.dh=0/\(0<=r.bh.a7/\r.bh.a7<=2)/\(0<=r.key/\r.key<12)/\(0<=r.val/\r.val<40)
theorem Vy(b:List Int):∀(n i:Nat) (e:Int) (xs:List aE) (c:h9),i+n=5->c.ok b->(0<=e/\e<=2)->xs.length<=i->(∀r∈xs,Input r)->
  ∃(ys:List aE) (d:h9),d.ok b/\ys.length<=5/\(∀r∈ys,Input r)/\c6 prog (av f119 0) (CM (b.map lR) i e (xs.map aE.e) c.i c.h) (.exit 0) (M1 (b.map lR) (ys.map aE.e) d.i d.h)
 | n,i,e,xs,c,j8,af,he,aj,aa=>by
  obtain⟨d1,m,dR,ao,cw⟩:=mq b c 6 af (by omega);by_cases h:(i:Int)<m
  ·match n with
   | 0=>omega
   | n+1=>
    obtain⟨d2,a,dH,ad,dt⟩:=mq b d1 2 dR (by omega);obtain⟨d3,k,gF,hk,eE⟩:=mq b d2 12 dH (by omega);obtain⟨d4,v,ph,bz,js⟩:=mq b d3 40 gF (by omega);have pP:=Fk (e+a) 0 2;have Pd:0<=gr (e+a) 0 2/\gr (e+a) 0 2<=2:=by
     unfold gr;simp only[show ¬(2:Int)<0 by omega,k9];split<;>(try split)<;>omega
    obtain⟨ys,d,o,k5,iE,l⟩:=Vy b n (i+1) (gr (e+a) 0 2) (xs++[⟨0,⟨gr (e+a) 0 2,0⟩,k,v⟩]) d4 (by omega) ph Pd (by simp;omega) (fun r az=>by
     rcases gV.1 az with az | az
     ·exact aa r az
     rw[List.mem_singleton]at az;subst az;exact⟨rfl,rfl,Pd,hk,bz⟩)
    refine⟨ys,d,o,k5,iE,.more ?_ l⟩;rw[jV];exact akh ⟨cw,nh h,dt,⟨by omega,by omega⟩,pP,eE,js,by simp;omega,by simp;omega,dY (fun d aB=>by simp only[et,qt,or_false]at aB;rcases aB with rfl | rfl | rfl | rfl | rfl<;>exact⟨_,rfl⟩),⟨by omega,by omega⟩,ae⟩
  exact⟨xs,d1,dR,by omega,aa,.last (cL 0) (aki ⟨cw,oN h,ae⟩)⟩
theorem ajI(b:List Int)(c:h9)(af:c.ok b):∃(d:h9) (xs:List aE),d.ok b/\xs.length<=5/\(∀r∈xs,Input r)/\dC prog 119 [.cur (c.e b) (d.e b)] (.vals [.one (.J 5 (xs.map aE.e))]):=by
 obtain⟨ys,d,o,k5,iE,l⟩:=Vy b 5 0 0 [] c rfl af (by omega) (by simp) (by simp);exact⟨d,ys,o,k5,iE,akj ⟨l,ae⟩⟩
end Go.Proofs.YtdchjefneblpgaaGreat
namespace Go.Proofs.YtdchjefneblpgaaGreat
open Go.Sx Go.RowKit Go.Proofs.Tryz
def sG(k a b:Int):List Node:=[⟨1,0,0,[1]⟩,⟨k,0,0,[2,5]⟩,⟨4,1+a,0,[3]⟩,⟨2,b,0,[4]⟩,⟨7,0,0,[1]⟩,⟨8,0,0,[]⟩]
def ln(k a b c:Int):Nat->List Node
 | 0=>(sG k a b).set 3 ⟨3,1+c,0,[4]⟩
 | 1=>(sG k a b).set 4 ⟨8,0,0,[]⟩
 | 2=>(sG k a b).set 2 ⟨4,1+a,0,[3,4]⟩
 | 3=>(sG k a b++[(⟨8,0,0,[]⟩:Node)]).set 0 ⟨1,0,0,[1,6]⟩
 | _=>sG k a b
structure ma (g:b0):Prop where
 nodes:∃(k a b c:Int) (v:Nat),(k=5\/k=6)/\(0<=a/\a<3)/\(0<=b/\b<4)/\(0<=c/\c<3)/\v<=4/\g.nodes=ln k a b c v
 aq:1<=g.aq/\g.aq<=3
 cap:1<=g.cap/\g.cap<=3
theorem ma.ok{g:b0}(h:ma g):eo g=true:=by
 obtain⟨⟨k,a,b,c,v,hk,ad,ao,af,bz,aK⟩,hw,f'⟩:=h;obtain⟨nodes,aq,cap⟩:=g;simp only at aK hw f';have Yn:a=0\/a=1\/a=2:=by omega
 have Yo:b=0\/b=1\/b=2\/b=3:=by omega
 have Yp:c=0\/c=1\/c=2:=by omega
 have bj:v=0\/v=1\/v=2\/v=3\/v=4:=by omega
 have awm:aq=1\/aq=2\/aq=3:=by omega
 have ep:cap=1\/cap=2\/cap=3:=by omega
 have key:∀k∈[(5:Int),6],∀a∈[(0:Int),1,2],∀b∈[(0:Int),1,2,3],∀c∈[(0:Int),1,2],∀v∈[0,1,2,3,4],(!(anyI (jL ⟨ln k a b c v,1,1⟩) 0 (ln k a b c v))&&decide ((ln k a b c v).length<=7)&&decide (1<=(ln k a b c v).length))=true:=by decide +kernel
 have:=key k (by rcases hk with h | h<;>simp[h]) a (by rcases Yn with h | h | h<;>simp[h]) b (by rcases Yo with h | h | h | h<;>simp[h]) c (by rcases Yp with h | h | h<;>simp[h]) v (by rcases bj with h | h | h | h | h<;>simp[h]);simp only[b8,b']at this;obtain⟨⟨h1,U⟩,ax⟩:=this;subst aK;have ZS:jL ⟨ln k a b c v,aq,cap⟩=jL ⟨ln k a b c v,1,1⟩:=rfl;unfold eo;simp only[b8];rw[ZS];refine⟨⟨⟨?_,?_⟩,?_⟩,h1⟩
 ·simp only[ap,b8,b'];omega
 ·simp only[ap,b8,b'];omega
 simp only[ap,b8,b'];omega
theorem ajJ(b:List Int)(c:h9)(af:c.ok b):∃(d:h9) (g:b0),d.ok b/\ma g/\dC prog 118 [.cur (c.e b) (d.e b)] (.vals [.agg g.e]):=by
 obtain⟨d1,hD,dR,h1,cw⟩:=mq b c 3 af (by omega);obtain⟨d2,ih,dH,U,dt⟩:=mq b d1 3 dR (by omega);obtain⟨d3,x,gF,eE⟩:=Vx b d2 3 dH (by omega);obtain⟨d4,jh,ph,aF,js⟩:=mq b d3 3 gF (by omega);obtain⟨d5,kv,JX,aQ,nU⟩:=mq b d4 4 ph (by omega);obtain⟨d6,n6,aa0,bb,pG⟩:=mq b d5 3 JX (by omega);obtain⟨d7,n7,aa1,bN,sK⟩:=mq b d6 6 aa0 (by omega);have i1:aC .i64 (1+hD):=⟨by omega,by omega⟩
 have i2:aC .i64 (1+ih):=⟨by omega,by omega⟩
 have i4:aC .i64 (1+jh):=⟨by omega,by omega⟩
 have i6:aC .i64 (1+n6):=⟨by omega,by omega⟩
 have fin:∀(k:Int) (v:Nat) {ds:List (List D)},(k=5\/k=6)->v<=4->sY ds ((ln k jh kv n6 v).map Node.e)->dC prog 118 [.cur (c.e b) (d7.e b)] (.vals [.agg [.J 4 ds,I (1+hD),I (1+ih)]])->
   ∃(d:h9) (g:b0),d.ok b/\ma g/\dC prog 118 [.cur (c.e b) (d.e b)] (.vals [.agg g.e]):=by
  intro k v ds hk bz bg az;exact⟨d7,⟨ln k jh kv n6 v,1+hD,1+ih⟩,aa1,⟨⟨k,jh,kv,n6,v,hk,aF,aQ,bb,bz,rfl⟩,by dsimp only;omega,by dsimp only;omega⟩,
   az.fit (.cons (.agg (.cons (.J 4 bg) (nm.refl _))) .nil)⟩
 have f1:∀d,Fit d d:=.refl;by_cases cc:n7=0
 ·cases x
  ·exact fin 5 0 (.inl rfl) (by omega) (by repeat (first | exact .refl _ | constructor)) (akc ⟨cw,i1,dt,i2,eE,rfl,js,i4,nU,pG,i6,sK,by simp[cc],by omega,by simp,rfl,ae⟩)
  exact fin 6 0 (.inr rfl) (by omega) (by repeat (first | exact .refl _ | constructor)) (aj7 ⟨cw,i1,dt,i2,eE,rfl,js,i4,nU,pG,i6,sK,by simp[cc],by omega,by simp,rfl,ae⟩)
 by_cases e1:n7=1
 ·cases x
  ·exact fin 5 1 (.inl rfl) (by omega) (by repeat (first | exact .refl _ | constructor)) (akd ⟨cw,i1,dt,i2,eE,rfl,js,i4,nU,pG,i6,sK,by simp[cc],by simp[e1],by omega,by simp,rfl,ae⟩)
  exact fin 6 1 (.inr rfl) (by omega) (by repeat (first | exact .refl _ | constructor)) (aj8 ⟨cw,i1,dt,i2,eE,rfl,js,i4,nU,pG,i6,sK,by simp[cc],by simp[e1],by omega,by simp,rfl,ae⟩)
 by_cases e2:n7=2
 ·cases x
  ·exact fin 5 2 (.inl rfl) (by omega) (by repeat (first | exact .refl _ | constructor)) (ake ⟨cw,i1,dt,i2,eE,rfl,js,i4,nU,pG,i6,sK,by simp[cc],by simp[e1],by simp[e2],by omega,by simp,rfl,ae⟩)
  exact fin 6 2 (.inr rfl) (by omega) (by repeat (first | exact .refl _ | constructor)) (aj9 ⟨cw,i1,dt,i2,eE,rfl,js,i4,nU,pG,i6,sK,by simp[cc],by simp[e1],by simp[e2],by omega,by simp,rfl,ae⟩)
 by_cases cJ:n7=3
 ·cases x
  ·exact fin 5 3 (.inl rfl) (by omega) (by repeat (first | exact .refl _ | constructor)) (akf ⟨cw,i1,dt,i2,eE,rfl,js,i4,nU,pG,i6,sK,by simp[cc],by simp[e1],by simp[e2],by simp[cJ],by simp,by simp,by omega,by simp,rfl,ae⟩)
  exact fin 6 3 (.inr rfl) (by omega) (by repeat (first | exact .refl _ | constructor)) (aka ⟨cw,i1,dt,i2,eE,rfl,js,i4,nU,pG,i6,sK,by simp[cc],by simp[e1],by simp[e2],by simp[cJ],by simp,by simp,by omega,by simp,rfl,ae⟩)
 cases x
 ·exact fin 5 4 (.inl rfl) (by omega) (by repeat (first | exact .refl _ | constructor)) (akg ⟨cw,i1,dt,i2,eE,rfl,js,i4,nU,pG,i6,sK,by simp[cc],by simp[e1],by simp[e2],by simp[cJ],ae⟩)
 exact fin 6 4 (.inr rfl) (by omega) (by repeat (first | exact .refl _ | constructor)) (akb ⟨cw,i1,dt,i2,eE,rfl,js,i4,nU,pG,i6,sK,by simp[cc],by simp[e1],by simp[e2],by simp[cJ],ae⟩)
def Gw(p:b9):Prop:=(1<=p.kind/\p.kind<=7)/\(0<=p.a/\p.a<3)/\(0<=p.b/\p.b<3)
theorem ajK(b:List Int)(c:h9)(af:c.ok b):∃(d:h9) (p:b9),d.ok b/\Gw p/\dC prog 242 [.cur (c.e b) (d.e b)] (.vals [.agg p.e]):=by
 obtain⟨d1,k,dR,h1,cw⟩:=ajH b c [1,1,1,2,3,3,3,4,4,5,6,6,7] af (by simp);obtain⟨d2,a,dH,U,dt⟩:=mq b d1 3 dR (by omega);have hk:1<=k/\k<=7:=by
  simp only[et,qt,or_false]at h1;omega
 by_cases e4:k=4
 ·obtain⟨d3,m,gF,ax,eE⟩:=mq b d2 2 dH (by omega);have o':aC .i64 (a+1):=⟨by omega,by omega⟩
  have nG:aC .i64 (a+1+m):=⟨by omega,by omega⟩
  exact⟨d3,⟨k,a,(a+1+m).tmod 3⟩,gF,⟨hk,U,Int.tmod_nonneg _ (by omega),Int.tmod_lt_of_pos _ (by omega)⟩,ajv ⟨cw,dt,by simp[e4],aju ⟨o',eE,nG,by decide,ae⟩,ae⟩⟩
 by_cases ko:k=5
 ·obtain⟨d3,m,gF,ax,eE⟩:=mq b d2 2 dH (by omega);have o':aC .i64 (a+1):=⟨by omega,by omega⟩
  have nG:aC .i64 (a+1+m):=⟨by omega,by omega⟩
  exact⟨d3,⟨k,a,(a+1+m).tmod 3⟩,gF,⟨hk,U,Int.tmod_nonneg _ (by omega),Int.tmod_lt_of_pos _ (by omega)⟩,ajx ⟨cw,dt,by simp[e4],by simp[ko],ajw ⟨o',eE,nG,by decide,ae⟩,ae⟩⟩
 exact⟨d2,⟨k,a,0⟩,dH,⟨hk,U,by dsimp only;omega⟩,ajy ⟨cw,dt,by simp[e4],by simp[ko],ae⟩⟩
theorem Yu(p:b9):Flat [p.e]:=dY fun d aB=>by
 simp only[b9.e,et,qt,or_false]at aB;rcases aB with rfl | rfl | rfl<;>exact⟨_,rfl⟩
theorem Vz(b:List Int)(m:Nat)(hm:m<=1000):∀(n i:Nat) (xs:List b9) (c:h9),i+n=m+1->c.ok b->xs.length<=i->(∀p∈xs,Gw p)->
  ∃(ys:List b9) (d:h9),d.ok b/\ys.length<=m+1/\(∀p∈ys,Gw p)/\c6 prog (av f120 0) (Cd (b.map lR) m i (xs.map b9.e) c.i c.h) (.exit 0) (M7 (b.map lR) (ys.map b9.e) d.i d.h)
 | n,i,xs,c,j8,af,aj,aa=>by
  obtain⟨d1,k,dR,hk,cw⟩:=mq b c ((m:Int)+1) af (by omega);by_cases h:(i:Int)<k
  ·match n with
   | 0=>omega
   | n+1=>
    obtain⟨d2,p,dH,hp,dt⟩:=ajK b d1 dR;obtain⟨ys,d,o,k5,iE,l⟩:=Vz b m hm n (i+1) (xs++[p]) d2 (by omega) dH (by simp;omega) (fun z aW=>by
     rcases gV.1 aW with aW | aW
     ·exact aa z aW
     rw[List.mem_singleton]at aW;subst aW;exact hp)
    refine⟨ys,d,o,k5,iE,.more ?_ l⟩;rw[jV];exact ajz ⟨⟨by omega,by omega⟩,cw,nh h,dt,by simp;omega,by simp;omega,Yu p,⟨by omega,by omega⟩,ae⟩
  exact⟨xs,d1,dR,by omega,aa,.last (cL 0) (ajA ⟨⟨by omega,by omega⟩,cw,oN h,ae⟩)⟩
theorem ajL(b:List Int)(c:h9)(m:Nat)(hm:m<=1000)(af:c.ok b):∃(d:h9) (cx:List b9),d.ok b/\cx.length<=m+1/\(∀p∈cx,Gw p)/\dC prog 120 [.cur (c.e b) (d.e b),.ro (.one (I m))] (.vals [.one (.J 3 (cx.map b9.e))]):=by
 obtain⟨ys,d,o,k5,iE,l⟩:=Vz b m hm (m+1) 0 [] c (by omega) af (by simp) (by simp);exact⟨d,ys,o,k5,iE,ajB ⟨l,ae⟩⟩
end Go.Proofs.YtdchjefneblpgaaGreat
namespace Go.Proofs.YtdchjefneblpgaaGreat
open Go.Sx Go.RowKit Go.Proofs.Tryz
theorem ma.size{g:b0}(h:ma g):g.sz<=100:=by
 obtain⟨⟨k,a,b,c,v,hk,ad,ao,af,bz,aK⟩,hw,f'⟩:=h;obtain⟨nodes,aq,cap⟩:=g;simp only at aK;subst aK;have e:(⟨ln k a b c v,aq,cap⟩:b0).sz=iV Node.sz (ln k a b c v):=rfl;rw[e];have bj:v=0\/v=1\/v=2\/v=3\/v=4:=by omega
 rcases bj with rfl | rfl | rfl | rfl | rfl<;>simp[iV,ln,sG,Node.sz]
theorem Input.qI{r:aE}(h:Input r):sF r=false:=by
 obtain⟨h1,U,ax,aF,aQ⟩:=h;have ok:eD r=true:=by
  simp only[eD,h3,fm,ap,b8,b',h1,U];omega
 simp[sF,ok,h1,U]
theorem M9{g:b0}{xs:List aE}(ar:ma g)(aj:xs.length<=6)(aa:∀r∈xs,Input r):mQ g xs=true:=
 CA.2 ⟨ar.ok,by omega,ff.2 fun r az=>by simp[(aa r az).qI]⟩
end Go.Proofs.YtdchjefneblpgaaGreat
namespace Go.Proofs.YtdchjefneblpgaaGreat
open Go.Sx Go.RowKit Go.Proofs.Tryz
structure lv (F I:aE->Prop) (c:aU):Prop where
 w:∀x∈c.aq,∀r,r∈x.queue\/r∈x.cp->F r
 l:∀l∈c.bK,∀r∈l.queue,F r
 i:∀x∈c.aq,∀r∈x.bZ,I r
variable{F I:aE->Prop}
theorem lv.setW{c:aU}{i:Int}{y:aL}(h:lv F I c)(h1:∀r,r∈y.queue\/r∈y.cp->F r)(U:∀r∈y.bZ,I r):lv F I (setW c i y):=
 ⟨fun x aa=>by
  rcases h8 aa with aa | rfl
  ·exact h.w x aa
  ·exact h1,h.l,fun x aa=>by
  rcases h8 aa with aa | rfl
  ·exact h.i x aa
  exact U⟩
theorem lv.db{c:aU}{i:Int}{m:bt}(h:lv F I c)(h1:∀r∈m.queue,F r):lv F I (db c i m):=
 ⟨h.w,fun l aj=>by
  rcases h8 aj with aj | rfl
  ·exact h.l l aj
  exact h1,h.i⟩
variable{c:aU}
theorem lv.at{i:Int}{x:aL}(h:lv F I c)(aa:b3 c i=some x):(∀r,r∈x.queue\/r∈x.cp->F r)/\∀r∈x.bZ,I r:=
 ⟨h.w x (cG (eK aa).2.2),h.i x (cG (eK aa).2.2)⟩
theorem lv.cM{i:Int}{u:bQ}(h:lv F I c):lv F I (cM c i u):=⟨h.w,h.l,h.i⟩
theorem lv.dx{e:Int}{t:bQ}{x:aL}(h:lv F I c)(aa:b3 c t.place=some x):lv F I (dx c e t x).1:=by
 obtain⟨h1,U⟩:=h.at aa;rcases qh c e t x with⟨_,k⟩ | ⟨_,_,⟨_,k⟩ | ⟨_,_,k⟩ | ⟨_,bl,_,k⟩ | ⟨_,_,_,k⟩⟩
 ·rw[k];exact h
 ·rw[k];exact h.cM.setW h1 U
 ·rw[k];exact h.cM.setW h1 U
 ·rw[k];have bw:=(h.cM (i:=e) (u:=⟨false,t.place,t.sum,t.bV,t.ca⟩)).setW (i:=0) (y:=told x e (t.ca||x.bm.getD e.toNat false)) h1 U;exact⟨bw.w,bw.l,bw.i⟩
 rw[k];exact⟨h.w,h.l,h.i⟩
theorem lv.step{d:aU}{p:b9}(h:lv F I c)(YD:∀r,I r->F r)(YC:∀r cs,F r->kj c.ay r=false->∀q∈(dW c.ay cs r).2.1,F q)(bD:cq c=true)(st:Step c p d):lv F I d:=by
 cases st with
 | work x r q hk aa ai aA=>
  obtain⟨h1,U⟩:=h.at aa;have ao:=(ik.1 (jr bD aa)).1;rw[aA,ru]at ao;refine h.setW (fun a ad=>?_) U;rcases ad with ad | ad
  ·exact h1 a (.inl (by rw[aA];exact fw _ ad))
  exact YC r _ (h1 r (.inl (by rw[aA];exact eY ..))) ao.1 a ad
 | input x r t hk aa ai aA hi=>
  obtain⟨h1,U⟩:=h.at aa;rw[hi]at U;refine h.setW (fun a ad=>?_) (fun a ad=>U a (fw _ ad));rcases ad with ad | ad
  ·obtain rfl:a=r:=by simpa using ad
   exact YD a (U a (eY ..))
  cases ad
 | eW x r t hk aa ai aN=>
  obtain⟨h1,U⟩:=h.at aa;rw[ai]at h1;refine h.setW (fun a ad=>?_) U;rcases ad with ad | ad
  ·rcases gV.1 ad with ad | ad
   ·exact h1 a (.inl ad)
   obtain rfl:a=r:=by simpa using ad
   exact h1 a (.inr (eY ..))
  exact h1 a (.inr (fw _ ad))
 | send x r t l hk aa ai aN aj hsend=>
  obtain⟨_,_,_,e1⟩:=Cu hsend;obtain⟨h1,U⟩:=h.at aa;rw[ai]at h1;refine (h.db (i:=dX c.ay p.a (eJ r.key c.ay.aq)) (m:=(ei l r).1) fun a ad=>?_).setW (c:=Go.Proofs.YtdchjefneblpgaaGreat.db c _ _) (fun a ad=>h1 a (ad.imp id (fw _))) U;rw[e1]at ad;rcases gV.1 ad with ad | ad
  ·exact h.l l (cG (iT aj).2.2) a ad
  obtain rfl:a=r:=by simpa using ad
  exact h1 a (.inr (eY ..))
 | take l x hk dD aj aa bq=>
  obtain⟨_,r,q,aA,e2,e1⟩:=xJ bq;obtain⟨h1,U⟩:=h.at aa;have ax:=h.l l (cG (iT aj).2.2);rw[aA]at ax;refine (h.db (i:=dX c.ay p.a p.b) (m:=(dI l).1) fun a ad=>?_).setW (c:=Go.Proofs.YtdchjefneblpgaaGreat.db c _ _) (fun a ad=>?_) U
  ·rw[e1]at ad;exact ax a (fw _ ad)
  rcases ad with ad | ad
  ·rcases gV.1 ad with ad | ad
   ·exact h1 a (.inl ad)
   obtain rfl:a=_:=by simpa using ad
   rw[e2];exact ax r (eY ..)
  exact h1 a (.inr ad)
 | qC l hk dD aj af=>
  rcases xK l with⟨k,_⟩ | ⟨_,_,_,e1⟩
  ·rw[af]at k;cases k
  refine h.db fun a ad=>?_
  rw[e1]at ad;exact h.l l (cG (iT aj).2.2) a ad
 | token t x cm hk j8 bl aB bq aa qV=>exact h.dx aa
 | qZ k n x hk aK aB aa=>
  have:lv F I (Go.Proofs.YtdchjefneblpgaaGreat.setW c p.a (ea x n)):=by
   obtain⟨h1,U⟩:=h.at aa;unfold ea;split
   ·exact h.setW h1 U
   exact h.setW h1 U
  exact⟨this.w,this.l,this.i⟩
theorem VA{g:b0}{k a b c:Int}{v:Nat}(bz:v<=4)(aK:g.nodes=ln k a b c v){op:Int}(bl:0<=op)(h1:op<g.nodes.length):
  ∃y,fK g op=some y/\((op=0/\y.kind=1/\(y.outs=[1]\/y.outs=[1,6]))\/(op=1/\y.kind=k/\y.outs=[2,5])\/(op=2/\y.kind=4/\y.a=1+a/\(y.outs=[3]\/y.outs=[3,4]))\/
   (op=3/\((y.kind=2/\y.a=b)\/y.kind=3)/\y.outs=[4])\/(op=4/\((y.kind=7/\y.outs=[1])\/(y.kind=8/\y.outs=[])))\/((op=5\/op=6)/\y.kind=8/\y.outs=[])):=by
 unfold fK;rw[aZ bl];rw[aK]at h1 ⊢;have e:op=0\/op=1\/op=2\/op=3\/op=4\/op=5\/op=6:=by
  have:(ln k a b c v).length<=7:=by
   have nE:v=0\/v=1\/v=2\/v=3\/v=4:=by omega
   rcases nE with rfl | rfl | rfl | rfl | rfl<;>exact Nat.le_of_ble_eq_true rfl
  omega
 have nE:v=0\/v=1\/v=2\/v=3\/v=4:=by omega
 rcases e with rfl | rfl | rfl | rfl | rfl | rfl | rfl
 ·rcases nE with rfl | rfl | rfl | rfl | rfl
  all_goals exact⟨_,rfl,.inl ⟨rfl,rfl,by first | exact .inl rfl | exact .inr rfl⟩⟩
 ·rcases nE with rfl | rfl | rfl | rfl | rfl
  all_goals exact⟨_,rfl,.inr (.inl ⟨rfl,rfl,rfl⟩)⟩
 ·rcases nE with rfl | rfl | rfl | rfl | rfl
  all_goals exact⟨_,rfl,.inr (.inr (.inl ⟨rfl,rfl,rfl,by first | exact .inl rfl | exact .inr rfl⟩))⟩
 ·rcases nE with rfl | rfl | rfl | rfl | rfl
  all_goals exact⟨_,rfl,.inr (.inr (.inr (.inl ⟨rfl,by first | exact .inr rfl | exact .inl ⟨rfl,rfl⟩,rfl⟩)))⟩
 ·rcases nE with rfl | rfl | rfl | rfl | rfl
  all_goals exact⟨_,rfl,.inr (.inr (.inr (.inr (.inl ⟨rfl,by first | exact .inl ⟨rfl,rfl⟩ | exact .inr ⟨rfl,rfl⟩⟩))))⟩
 ·rcases nE with rfl | rfl | rfl | rfl | rfl
  all_goals exact⟨_,rfl,.inr (.inr (.inr (.inr (.inr ⟨.inl rfl,rfl,rfl⟩))))⟩
 rcases nE with rfl | rfl | rfl | rfl | rfl
 ·exact absurd h1 (by simp[ln,sG])
 ·exact absurd h1 (by simp[ln,sG])
 ·exact absurd h1 (by simp[ln,sG])
 ·exact⟨_,rfl,.inr (.inr (.inr (.inr (.inr ⟨.inr rfl,rfl,rfl⟩))))⟩
 exact absurd h1 (by simp[ln,sG])
structure yh (A B:Int) (x r:aE) (j:Nat):Prop where
 a7:r.bh.a7=x.bh.a7
 dh:0<=r.bh.dh/\r.bh.dh<=6
 av3:(j:Int)<=r.bh.dh+(if r.op=4 then 1 else 0)
 val:r.val=x.val+B*j
 key:r.key=(x.key+A*(r.bh.dh+(if r.op=3\/r.op=4 then 1 else 0))) % 100
def Form(A B:Int)(xs:List aE)(r:aE):Prop:=∃x∈xs,∃j,yh A B x r j
def nW(op dh:Int):Nat:=
 if op=0 then 7 else if op=1 then 1 else if op=2 then (if dh<6 then 16 else 10) else if op=3 then (if dh<6 then 7 else 4) else if op=4 then (if dh<6 then 4 else 1) else 1
def wt(r:aE):Nat:=nW r.op r.bh.dh
def te(t:Int):Nat:=if t<6 then 21 else 15
theorem M'{x:Node}{r:aE}(aK:aH x=true)(az:eD r=true)(U:x.kind≠2)(ax:x.kind≠3)(aF:x.kind≠4):cC x r.key r.val=(r.key,r.val,x.kind != 8):=by
 unfold cC;rw[aK,Cj az];simp only[Bool.and_self,fL,a6 U,a6 ax,a6 aF]
theorem VB{B:Int}{j:Nat}(AR:0<=B/\B<4)(aP:j<=7):0<=B*j/\B*j<=21:=by
 have h:B=0\/B=1\/B=2\/B=3:=by omega
 rcases h with rfl | rfl | rfl | rfl<;>omega
theorem VC{g:b0}{k a b c:Int}{v:Nat}(hk:k=5\/k=6)(ao:0<=b/\b<4)(ad:0<=a/\a<3)(bz:v<=4)(aK:g.nodes=ln k a b c v)(ar:eo g=true){x r:aE}{j:Nat}(aa:Input x)(bg:yh (1+a) b x r j)
  (az:kj g r=false) (cs:List Cell):
  c4 (fun q=>wt q+2) (dW g cs r).2.1+1<=wt r+(if r.op=1/\(ct k cs (cellOf r)).2=true then te r.bh.dh else 0)/\∀q∈(dW g cs r).2.1,∃i,yh (1+a) b x q i:=by
 simp only[kj,fR,jW,lr]at az;obtain⟨bD,bu⟩:=az;have bl:0<=r.op:=by
  simp only[eD,ap,b8,b']at bD;omega
 obtain⟨f1,f2,f3,f4,f5⟩:=bg;obtain⟨y,bn,af⟩:=VA bz aK bl (by omega);have nk:=VP ar bn;rw[anc ar bD bn];rcases af with⟨aN,kr,hJ⟩ | ⟨aN,kr,hJ⟩ | ⟨aN,kr,yU,hJ⟩ | ⟨aN,kr,hJ⟩ | ⟨aN,kr⟩ | ⟨aN,kr,hJ⟩
 ·
  rw[M' nk bD (by omega) (by omega) (by omega),xV (by omega) (by omega) (by omega),kr];simp[aN]at f3 f5;rcases hJ with hJ | hJ
  ·refine⟨by simp[e3,hJ,c4,wt,nW,aN],fun q aA=>?_⟩;simp[e3,hJ]at aA;subst aA;exact⟨j,f1,f2,by simpa using f3,f4,by simpa using f5⟩
  refine⟨by simp[e3,hJ,c4,wt,nW,aN],fun q aA=>?_⟩;simp[e3,hJ]at aA;rcases aA with rfl | rfl
  ·exact⟨j,f1,f2,by simpa using f3,f4,by simpa using f5⟩
  exact⟨j,f1,f2,by simpa using f3,f4,by simpa using f5⟩
 ·
  rw[M' nk bD (by omega) (by omega) (by omega),kr];simp[aN]at f3 f5;have Ea:(k != 8)=true:=by rcases hk with rfl | rfl<;>rfl
  have Pv:k≠7:=by omega
  cases awX:(ct k cs (cellOf r)).2 with
  | false=>exact⟨by simp[Ea,c4,wt,nW,aN],fun q aA=>by simp[Ea]at aA⟩
  | true=>
   refine⟨?_,fun q aA=>?_⟩
   ·simp only[Ea,iu,Bool.false_and,ng,k9,Pv,e3,hJ,aN,and_self,fL,reduceCtorEq];simp only[k8,List.map_nil,c4,rO,List.sum_nil,wt,nW,te];by_cases bb:r.bh.dh<6
    ·simp[bb,aN]
    simp[bb,aN]
   simp[Ea,Pv,e3,hJ]at aA;rcases aA with rfl | rfl
   ·exact⟨j,f1,f2,by simpa using f3,f4,by simpa using f5⟩
   exact⟨j,f1,f2,by simpa using f3,f4,by simpa using f5⟩
 ·
  have tn:cC y r.key r.val=((r.key+y.a).tmod 100,r.val,true):=by
   unfold cC;rw[nk,Cj bD,kr];rfl
  rw[tn,xV (by omega) (by omega) (by omega),kr];simp[aN]at f3 f5;have ZA:(r.key+y.a).tmod 100=(x.key+(1+a)*(r.bh.dh+1)) % 100:=by
   rw[Int.mul_add,Int.mul_one,f5,yU,Int.tmod_eq_emod_of_nonneg (by omega)];generalize (1+a)*r.bh.dh=m;omega
  rw[ZA];have fc:∃i,yh (1+a) b x ⟨3,r.bh,(x.key+(1+a)*(r.bh.dh+1)) % 100,r.val⟩ i:=⟨j,f1,f2,by simpa using f3,f4,by simp⟩
  have mP:∃i,yh (1+a) b x ⟨4,r.bh,(x.key+(1+a)*(r.bh.dh+1)) % 100,r.val⟩ i:=⟨j,f1,f2,by dsimp only;rw[aZ rfl];omega,f4,by simp⟩
  rcases hJ with hJ | hJ
  ·refine⟨?_,fun q aA=>?_⟩
   ·simp only[e3,hJ];by_cases bb:r.bh.dh<6<;>simp[c4,wt,nW,aN,bb]
   simp[e3,hJ]at aA;subst aA;exact fc
  refine⟨?_,fun q aA=>?_⟩
  ·simp only[e3,hJ];by_cases bb:r.bh.dh<6<;>simp[c4,wt,nW,aN,bb]
  simp[e3,hJ]at aA;rcases aA with rfl | rfl
  ·exact fc
  exact mP
 ·
  simp[aN]at f3 f5;have hm:=VB ao (j:=j) (by omega);have r9:=VB ao (j:=j+1) (by omega);obtain⟨_,_,_,_,tA⟩:=aa;rcases kr with⟨kr,yU⟩ | kr
  ·have tn:cC y r.key r.val=(r.key,r.val+b,true):=by
    unfold cC;rw[nk,Cj bD,kr];simp only[Bool.and_self,fL,yU];rw[show less (r.val+b) 999=r.val+b by unfold less;rw[a6 (by omega)]]
   rw[tn,xV (by omega) (by omega) (by omega),kr];refine⟨?_,fun q aA=>?_⟩
   ·simp only[e3,hJ];by_cases bb:r.bh.dh<6<;>simp[c4,wt,nW,aN,bb]
   simp[e3,hJ]at aA;subst aA;refine⟨j+1,f1,f2,by dsimp only;rw[aZ rfl];omega,?_,by simpa using f5⟩;dsimp only;rw[f4,Int.natCast_add,Int.mul_add];omega
  have tn:∃z,cC y r.key r.val=(r.key,r.val,z):=by
   unfold cC;rw[nk,Cj bD,kr];exact⟨_,rfl⟩
  obtain⟨z,tn⟩:=tn;rw[tn,xV (by omega) (by omega) (by omega),kr];cases z with
  | false=>
   refine⟨?_,fun q aA=>by simp at aA⟩;by_cases bb:r.bh.dh<6<;>simp[c4,wt,nW,aN,bb]
  | true=>
   refine⟨?_,fun q aA=>?_⟩
   ·simp only[e3,hJ];by_cases bb:r.bh.dh<6<;>simp[c4,wt,nW,aN,bb]
   simp[e3,hJ]at aA;subst aA;exact⟨j,f1,f2,by dsimp only;rw[aZ rfl];omega,f4,by simpa using f5⟩
 ·
  simp[aN]at f3 f5;rcases kr with⟨kr,hJ⟩ | ⟨kr,hJ⟩
  ·rw[M' nk bD (by omega) (by omega) (by omega),xV (by omega) (by omega) (by omega),kr];unfold eS;by_cases bb:r.bh.dh<6
   ·have fk:(h3 r.bh&&decide (r.bh.dh<6))=true:=by
     simp only[eD,b8]at bD;rw[bD.1.2,nh bb];rfl
    rw[aZ fk];refine⟨?_,fun q aA=>?_⟩
    ·simp[e3,hJ,c4,wt,nW,aN,bb]
    simp[e3,hJ]at aA;subst aA;exact⟨j,f1,⟨by dsimp only;omega,by dsimp only;omega⟩,by simpa using f3,f4,by simpa using f5⟩
   rw[a6 (by simp[bb])];refine⟨?_,fun q aA=>by simp[bb]at aA⟩;simp[c4,wt,nW,aN,bb]
  have aW:∀s cb k4,e3 y s cb k4=[]:=fun s cb k4=>by simp[e3,hJ]
  simp only[aW,ite_self];refine⟨?_,fun q aA=>by cases aA⟩;by_cases bb:r.bh.dh<6<;>simp[c4,wt,nW,aN,bb]
 -- out
 have aW:∀s cb k4,e3 y s cb k4=[]:=fun s cb k4=>by simp[e3,hJ]
 simp only[aW,ite_self];refine⟨?_,fun q aA=>by cases aA⟩;rcases aN with aN | aN<;>simp[c4,wt,nW,aN]
end Go.Proofs.YtdchjefneblpgaaGreat
namespace Go.Proofs.YtdchjefneblpgaaGreat
open Go.Sx Go.RowKit Go.Proofs.Tryz
theorem Gx{α:Type}{f g:α->Nat}:∀{xs:List α},(∀u∈xs,f u<=g u)->c4 f xs<=c4 g xs
 | [],_=>dN _
 | x::xs,h=>by
  have h1:=h x (eY ..);have U:=Gx (f:=f) (g:=g) (xs:=xs) fun u hu=>h u (fw _ hu)
  simp only[c4,k8,rO]at U ⊢;omega
theorem VD{α:Type}{f g:α->Nat}{m:Nat}{u:α}:∀{xs:List α},(∀u∈xs,f u<=g u)->u∈xs->f u+m<=g u->c4 f xs+m<=c4 g xs
 | [],_,h,_=>by cases h
 | x::xs,h,hu,hm=>by
  have h1:=h x (eY ..);have U:∀u∈xs,f u<=g u:=fun u hu=>h u (fw _ hu)
  simp only[c4,k8,rO];rcases et.1 hu with rfl | hu
  ·have:=Gx U;unfold c4 at this;omega
  have:=VD U hu hm;unfold c4 at this;omega
theorem Ce{α:Type}{f:α->Nat}{xs ys:List α}:c4 f (xs++ys)=c4 f xs+c4 f ys:=by
 simp[c4]
theorem mr{α:Type}{f:α->Nat}{x:α}{xs:List α}:c4 f (x::xs)=f x+c4 f xs:=by simp[c4]
theorem xP{α:Type}{f:α->Nat}:c4 f []=0:=rfl
def HP(A B:Int)(x:aE)(t j:Nat):Cell:=⟨1,x.bh.a7,(x.key+A*t) % 100,x.val+B*j⟩
def univ(A B:Int)(xs:List aE):List (Nat×Cell):=xs.flatMap fun x=>(List.range 7).flatMap fun t=>(List.range (t+1)).map fun j=>(t,HP A B x t j)
def sH(k n:Int)(kM:List (List Cell))(u:Cell):Bool:=match kM[(eJ u.key n).toNat]? with | some cs=>(ct k cs u).2 | none=>false
def AB(k n:Int)(kM:List (List Cell))(u:Nat×Cell):Nat:=if sH k n kM u.2=true then te u.1 else 0
def y0(k n:Int)(kM:List (List Cell))(bi:List (Nat×Cell)):Nat:=c4 (AB k n kM) bi
theorem VE(A B:Int):∀xs:List aE,c4 (fun u=>te u.1) (univ A B xs)=xs.length*546
 | []=>rfl
 | x::xs=>by
  have dk:=VE A B xs;unfold univ at dk ⊢;rw[List.flatMap_cons,Ce,dk,dJ];have:c4 (fun u:Nat×Cell=>te u.1) ((List.range 7).flatMap fun t=>(List.range (t+1)).map fun j=>(t,HP A B x t j))=546:=by
   simp[c4,List.range_succ,te]
  omega
theorem ajM(k n A B:Int)(kM:List (List Cell))(xs:List aE):y0 k n kM (univ A B xs)<=xs.length*546:=by
 rw[<-VE A B xs];refine Gx fun u _=>?_
 unfold AB;split
 ·exact dN _
 exact Nat.zero_le _
theorem ajN{A B:Int}{xs:List aE}{x r:aE}{j:Nat}(aa:x∈xs)(h:yh A B x r j)(aN:r.op=1):(r.bh.dh.toNat,cellOf r)∈univ A B xs:=by
 obtain⟨f1,f2,f3,f4,f5⟩:=h;simp[aN]at f3 f5;unfold univ;refine kF.2 ⟨x,aa,kF.2 ⟨r.bh.dh.toNat,List.mem_range.2 (by omega),jZ.2 ⟨j,List.mem_range.2 (by omega),?_⟩⟩⟩;unfold HP cellOf;rw[Int.toNat_of_nonneg f2.1,<-f5,<-f4,f1,aN]
variable{k:Int}{kM:List (List Cell)}{i:Nat}{cs rV:List Cell}
theorem VF{n:Int}(hi:kM[i]?=some cs){u:Cell}(h:(ct k rV u).2=true->(ct k cs u).2=true):sH k n (kM.set i rV) u=true->sH k n kM u=true:=by
 unfold sH;rw[jy];by_cases II:i=(eJ u.key n).toNat
 ·rw[aZ II,aZ (aX hi),<-II,hi];exact h
 rw[a6 II];exact id
theorem ajO{n:Int}(hi:kM[i]?=some cs){bi:List (Nat×Cell)}(h:∀u∈bi,(ct k rV u.2).2=true->(ct k cs u.2).2=true):y0 k n (kM.set i rV) bi<=y0 k n kM bi:=by
 refine Gx fun u hu=>?_
 unfold AB;by_cases ar:sH k n (kM.set i rV) u.2=true
 ·rw[aZ ar,aZ (VF hi (h u hu) ar)];exact dN _
 rw[a6 ar];exact Nat.zero_le _
theorem ajP{n:Int}(hi:kM[i]?=some cs){bi:List (Nat×Cell)}(h:∀u∈bi,(ct k rV u.2).2=true->(ct k cs u.2).2=true)
  {u:Nat×Cell} (hu:u∈bi) (aN:(eJ u.2.key n).toNat=i) (h1:(ct k cs u.2).2=true) (U:(ct k rV u.2).2=false):y0 k n (kM.set i rV) bi+te u.1<=y0 k n kM bi:=by
 refine VD (fun u hu=>?_) hu ?_
 ·unfold AB;by_cases ar:sH k n (kM.set i rV) u.2=true
  ·rw[aZ ar,aZ (VF hi (h u hu) ar)];exact dN _
  rw[a6 ar];exact Nat.zero_le _
 have g1:sH k n kM u.2=true:=by unfold sH;rw[aN,hi];exact h1
 have g2:sH k n (kM.set i rV) u.2=false:=by unfold sH;rw[aN,py hi];exact U
 unfold AB;rw[aZ g1,a6 (by rw[g2];decide)];omega
def h2(x:aL):Nat:=c4 wt x.queue+c4 (fun r=>wt r+2) x.cp+c4 (fun r=>wt r+1) x.bZ
def po(l:bt):Nat:=c4 (fun r=>wt r+1) l.queue+l.back.toNat
structure kI where
 k:Int
 a:Int
 b:Int
 c:Int
 v:Nat
 xs:List aE
def kI.bi(P:kI):List (Nat×Cell):=univ (1+P.a) P.b P.xs
def fC(P:kI)(c:aU):Nat:=c4 h2 c.aq+c4 po c.bK+y0 P.k c.ay.aq (c.aq.map aL.cells) P.bi
structure kI.Aq (P:kI) (c:aU):Prop where
 k:P.k=5\/P.k=6
 a:0<=P.a/\P.a<3
 b:0<=P.b/\P.b<4
 v:P.v<=4
 nodes:c.ay.nodes=ln P.k P.a P.b P.c P.v
 bZ:∀r∈P.xs,Input r
 V5:lv (Form (1+P.a) P.b P.xs) (fun r=>r∈P.xs) c
variable{P:kI}{c:aU}
theorem kI.Aq.step{d:aU}{p:b9}(h:P.Aq c)(bD:cq c=true)(st:Step c p d)(ar:d.ay=c.ay):P.Aq d:=by
 refine⟨h.k,h.a,h.b,h.v,by rw[ar];exact h.nodes,h.bZ,h.V5.step (fun r az=>?_) (fun r cs bg ao q aA=>?_) bD st⟩
 ·obtain⟨i1,i2,i3,i4,i5⟩:=h.bZ r az;refine⟨r,az,0,rfl,by omega,by rw[i2,i1];decide,by omega,?_⟩;rw[i2,i1];simp only[show ¬((0:Int)=3\/(0:Int)=4) by decide,k9,Int.add_zero,Int.mul_zero];omega
 obtain⟨x,aa,j,bg⟩:=bg;obtain⟨i,hi⟩:=(VC h.k h.b h.a h.v h.nodes (e7.1 bD).1 (h.bZ x aa) bg ao cs).2 q aA;exact⟨x,aa,i,hi⟩
theorem xQ{P:kI}{c:aU}{i:Int}{x y:aL}(aa:b3 c i=some x)(af:y.cells=x.cells):fC P (setW c i y)+h2 x=fC P c+h2 y:=by
 obtain⟨_,_,U⟩:=eK aa;have h:=Ge (f:=h2) y U;have e:(c.aq.set i.toNat y).map aL.cells=c.aq.map aL.cells:=by
  rw[kG,af];exact Cw (by rw[dG,U];rfl)
 unfold fC;simp only[setW,e];omega
theorem Na{P:kI}{i:Int}{l m:bt}(aj:eB c i=some l):fC P (db c i m)+po l=fC P c+po m:=by
 have h:=Ge (f:=po) m (iT aj).2.2;unfold fC;simp only[db];omega
theorem ajQ{e:Int}{t:bQ}{x:aL}(aa:b3 c t.place=some x):fC P (dx c e t x).1=fC P c:=by
 have hw:∀u:bQ,fC P (setW (cM c e u) t.place (er x e))=fC P c:=fun u=>by
  have:=xQ (P:=P) (c:=cM c e u) (y:=er x e) aa rfl;have e1:fC P (cM c e u)=fC P c:=rfl;have e2:h2 (er x e)=h2 x:=rfl;omega
 rcases qh c e t x with⟨_,k⟩ | ⟨_,_,⟨_,k⟩ | ⟨_,_,k⟩ | ⟨_,bl,_,k⟩ | ⟨_,_,_,k⟩⟩
 ·rw[k]
 ·rw[k];exact hw _
 ·rw[k];exact hw _
 ·rw[k];have aW:t.place=0:=by have:=(eK aa).1;omega
  rw[aW]at aa;have:=xQ (P:=P) (c:=cM c e ⟨false,t.place,t.sum,t.bV,t.ca⟩) (y:=told x e (t.ca||x.bm.getD e.toNat false)) aa rfl;have e1:fC P (cM c e ⟨false,t.place,t.sum,t.bV,t.ca⟩)=fC P c:=rfl;have e2:h2 (told x e (t.ca||x.bm.getD e.toNat false))=h2 x:=rfl;change fC P (setW (cM c e ⟨false,t.place,t.sum,t.bV,t.ca⟩) 0 (told x e (t.ca||x.bm.getD e.toNat false)))=_;omega
 rw[k];rfl
theorem VG{d:aU}{p:b9}(h:P.Aq c)(ou:j1 c)(bD:cq c=true)(st:Step c p d):fC P d+(if p.kind<=5/\p.kind≠4 then 1 else 0)<=fC P c:=by
 have ar:=(e7.1 bD).1;cases st with
 | work x r q hk aa ai aA=>
  rw[aZ (show p.kind<=5/\p.kind≠4 by omega)];obtain⟨cm,hG,gd⟩:=eK aa;have a':=jr bD aa;have ao:=(ik.1 a').1;rw[aA,ru]at ao;obtain⟨avy,Er,j,bg⟩:=(h.V5.at aa).1 r (.inl (by rw[aA];exact eY ..));obtain⟨Pf,_⟩:=VC h.k h.b h.a h.v h.nodes ar (h.bZ avy Er) bg ao.1 x.cells;have az:=ao.1;simp only[kj,fR,jW,lr]at az;have q9:0<=r.op:=by
   have:=az.1;simp only[eD,ap,b8,b']at this;omega
  obtain⟨y,bn,yV⟩:=VA h.v h.nodes q9 (by omega);have fa:=anb (cs:=x.cells) ar az.1 bn;have o1:(c.aq.map aL.cells)[p.a.toNat]?=some x.cells:=by rw[dG,gd];rfl
  have lD:(eJ (cellOf r).key c.ay.aq).toNat=p.a.toNat:=by
   have:=(ou.at aa).1 r (by rw[aA];exact eY ..);change (eJ r.key c.ay.aq).toNat=_;omega
  have mono:∀u∈P.bi,(ct P.k (dW c.ay x.cells r).1 u.2).2=true->(ct P.k x.cells u.2).2=true:=by
   intro u hu h1;have fO:u.2.op=1:=by
    unfold kI.bi univ at hu;obtain⟨gS,_,hu⟩:=kF.1 hu;obtain⟨t,_,hu⟩:=kF.1 hu;obtain⟨kS,_,rfl⟩:=jZ.1 hu;rfl
   have yL:P.k=5\/P.k=6\/P.k=8:=by have:=h.k;omega
   cases U:(ct P.k x.cells u.2).2 with
   | true=>rfl
   | false=>
    have yF:=am8 (k:=P.k) (cb:=y.kind) yL (y:=cellOf r) (u:=u.2) (fun e=>by
     rw[fO]at e;change r.op=1 at e;rcases yV with⟨aN,_⟩ | ⟨_,yV,_⟩ | ⟨aN,_⟩ | ⟨aN,_⟩ | ⟨aN,_⟩ | ⟨aN,_⟩
     ·omega
     ·exact yV
     ·omega
     ·omega
     ·omega
     omega) ((GF yL _ _).1 U)
    rw[<-fa]at yF;rw[(GF yL _ _).2 yF]at h1;cases h1
  have hw:=Ge (f:=h2) (⟨q,(dW c.ay x.cells r).2.1,x.bZ,(dW c.ay x.cells r).1,x.bM,x.bV,(if ca c.ay r then x.bm.set r.bh.a7.toNat true else x.bm),x.b1⟩:aL) gd;have IW:h2 x=wt r+c4 wt q+c4 (fun r=>wt r+1) x.bZ:=by
   unfold h2;rw[aA,ai,mr,xP];omega
  have awW:h2 ⟨q,(dW c.ay x.cells r).2.1,x.bZ,(dW c.ay x.cells r).1,x.bM,x.bV,(if ca c.ay r then x.bm.set r.bh.a7.toNat true else x.bm),x.b1⟩=c4 wt q+c4 (fun r=>wt r+2) (dW c.ay x.cells r).2.1+c4 (fun r=>wt r+1) x.bZ:=rfl;unfold fC;simp only[setW,kG];by_cases hp:r.op=1/\(ct P.k x.cells (cellOf r)).2=true
  ·rw[aZ hp]at Pf;have gP:y.kind=P.k:=by
    rcases yV with⟨aN,_⟩ | ⟨_,yV,_⟩ | ⟨aN,_⟩ | ⟨aN,_⟩ | ⟨aN,_⟩ | ⟨aN,_⟩
    ·omega
    ·exact yV
    ·omega
    ·omega
    ·omega
    omega
   have aj:=ajP (n:=c.ay.aq) o1 mono (ajN Er bg hp.1) lD hp.2 (by
    rw[fa,gP];have yL:P.k=5\/P.k=6\/P.k=8:=by have:=h.k;omega
    exact (GF yL _ _).2 (am9 yL hp.2))
   have bq:te (r.bh.dh.toNat:Nat)=te r.bh.dh:=by rw[Int.toNat_of_nonneg bg.dh.1]
   rw[bq]at aj;omega
  rw[a6 hp]at Pf;have aj:=ajO (n:=c.ay.aq) o1 mono;omega
 | input x r t hk aa ai aA hi=>
  rw[aZ (show p.kind<=5/\p.kind≠4 by omega)];have:=xQ (P:=P) (y:=⟨[r],[],t,x.cells,x.bM,x.bV,x.bm,x.b1⟩) aa rfl;simp only[h2,ai,aA,hi,mr,xP]at this;omega
 | eW x r t hk aa ai aN=>
  rw[aZ (show p.kind<=5/\p.kind≠4 by omega)];have:=xQ (P:=P) (y:=kept (iB x t) r) aa rfl;have e1:h2 x=c4 wt x.queue+(wt r+2+c4 (fun r=>wt r+2) t)+c4 (fun r=>wt r+1) x.bZ:=by simp only[h2,ai,mr]
  have e2:h2 (kept (iB x t) r)=c4 wt x.queue+(wt r+0)+c4 (fun r=>wt r+2) t+c4 (fun r=>wt r+1) x.bZ:=by simp only[h2,kept,iB,Ce,mr,xP]
  omega
 | send x r t l hk aa ai aN aj hsend=>
  rw[aZ (show p.kind<=5/\p.kind≠4 by omega)];obtain⟨_,_,_,e1⟩:=Cu hsend;have h1:=Na (P:=P) (m:=(ei l r).1) aj;have U:=xQ (P:=P) (c:=db c (dX c.ay p.a (eJ r.key c.ay.aq)) (ei l r).1) (y:=my (iB x t) r.bh.a7) aa rfl;have cy:h2 x=c4 wt x.queue+(wt r+2+c4 (fun r=>wt r+2) t)+c4 (fun r=>wt r+1) x.bZ:=by simp only[h2,ai,mr]
  have bw:h2 (my (iB x t) r.bh.a7)=c4 wt x.queue+c4 (fun r=>wt r+2) t+c4 (fun r=>wt r+1) x.bZ:=rfl;have fc:po (ei l r).1=po l+(wt r+1):=by
   rw[e1];simp only[po,Ce,mr,xP];omega
  omega
 | take l x hk dD aj aa bq=>
  rw[a6 (show ¬(p.kind<=5/\p.kind≠4) by omega)];obtain⟨mh,r,q,aA,e2,e1⟩:=xJ bq;have ao:=(nR.1 mh).2.2.1;simp only[ap,b']at ao;have h1:=Na (P:=P) (m:=(dI l).1) aj;have U:=xQ (P:=P) (c:=db c (dX c.ay p.a p.b) (dI l).1) (y:=k1 x (dI l).2.1) aa rfl;have bw:h2 (k1 x (dI l).2.1)=h2 x+wt r:=by
   rw[e2];simp only[h2,k1,Ce,mr,xP];omega
  have fc:po (dI l).1+wt r=po l:=by
   rw[e1];simp only[po,aA,mr];omega
  omega
 | qC l hk dD aj af=>
  rw[aZ (show p.kind<=5/\p.kind≠4 by omega)];rcases xK l with⟨k,_⟩ | ⟨_,mh,ic,e1⟩
  ·rw[af]at k;cases k
  have ao:=(nR.1 mh).2.2.1;simp only[ap,b']at ao;have h1:=Na (P:=P) (m:=(fT l).1) aj;rw[e1]at h1 ⊢;simp only[po]at h1;omega
 | token t x cm hk j8 bl aB bq aa qV=>
  rw[a6 (show ¬(p.kind<=5/\p.kind≠4) by omega),ajQ aa];exact dN _
 | qZ k n x hk aK aB aa=>
  rw[a6 (show ¬(p.kind<=5/\p.kind≠4) by omega)];have:fC P (setW c p.a (ea x n))+h2 x=fC P c+h2 (ea x n):=xQ aa (by unfold ea;split<;>rfl);have e:h2 (ea x n)=h2 x:=by unfold ea;split<;>rfl
  change fC P (setW c p.a (ea x n))+0<=_;omega
theorem Nb{α:Type}{f g:α->Nat}:∀xs:List α,c4 (fun x=>f x+g x) xs=c4 f xs+c4 g xs
 | []=>rfl
 | x::xs=>by rw[mr,mr,mr,Nb xs];omega
theorem zT{α:Type}:∀xs:List α,c4 (fun _=>0) xs=0
 | []=>rfl
 | x::xs=>by rw[mr,zT xs]
theorem xR{α:Type}{f g:α->Nat}:∀{xs:List α},(∀u∈xs,f u=g u)->c4 f xs=c4 g xs
 | [],_=>rfl
 | x::xs,h=>by rw[mr,mr,h x (eY ..),xR fun u hu=>h u (fw _ hu)]
theorem Nc(o:Int)(m:Nat):∀n:Nat,c4 (fun w:Nat=>if o=(w:Int) then m else 0) (List.range n)=if 0<=o/\o<n then m else 0
 | 0=>by
  rw[yd,xP,a6 (by omega)]
 | n+1=>by
  rw[List.range_succ,Ce,Nc o m n,mr,xP];by_cases h:o=(n:Int)
  ·rw[a6 (by omega),aZ h,aZ (by omega)];omega
  rw[a6 h];by_cases U:0<=o/\o<n
  ·rw[aZ U,aZ (by omega)];rfl
  rw[a6 U,a6 (by omega)]
def Bk(g:b0)(w e:Int)(r:aE):Bool:=r.bh.a7==e&&eJ r.key g.aq==w
theorem Nd(g:b0)(xs:List aE)(w:Int):(own g xs w).length=c4 (fun e:Nat=>xs.countP (Bk g w e)) (List.range 4):=by
 unfold own pk;rw[List.length_flatMap];unfold c4
 congr 1
 refine lq fun e _=>?_
 rw[List.countP_eq_length_filter];rfl
theorem ajR(g:b0)(x:aE)(xs:List aE)(w:Int):(own g (x::xs) w).length=(own g xs w).length+(if eJ x.key g.aq=w then (if 0<=x.bh.a7/\x.bh.a7<4 then 1 else 0) else 0):=by
 rw[Nd,Nd];have h:∀e:Nat,(x::xs).countP (Bk g w e)=xs.countP (Bk g w e)+(if eJ x.key g.aq=w then (if x.bh.a7=(e:Int) then 1 else 0) else 0):=fun e=>by
  rw[List.countP_cons]
  congr 1
  unfold Bk;by_cases h1:eJ x.key g.aq=w
  ·by_cases U:x.bh.a7=(e:Int)
   ·simp[h1,U]
   simp[h1,U]
  simp[h1]
 rw[xR (g:=fun e:Nat=>xs.countP (Bk g w e)+(if eJ x.key g.aq=w then (if x.bh.a7=(e:Int) then 1 else 0) else 0)) fun e _=>h e,Nb]
 congr 1
 by_cases h1:eJ x.key g.aq=w
 ·simp only[aZ h1];exact Nc x.bh.a7 1 4
 simp only[a6 h1];exact zT _
theorem VH{g:b0}(aK:1<=g.aq):∀xs:List aE,(∀r∈xs,0<=r.bh.a7/\r.bh.a7<4)->c4 (fun w:Nat=>(own g xs w).length) (List.range g.aq.toNat)=xs.length
 | [],_=>by
  rw[xR (g:=fun _=>0) fun w _=>by rw[Nd];exact zT _,zT];rfl
 | x::xs,h=>by
  have aa:=h x (eY ..);have aN:=Co x.key aK;simp only[ap,b']at aN;rw[xR (g:=fun w:Nat=>(own g xs w).length+(if eJ x.key g.aq=(w:Int) then 1 else 0)) fun w _=>by rw[ajR,aZ aa],Nb,VH aK xs fun r az=>h r (fw _ az),Nc,aZ (by omega)];rfl
theorem VI{g:b0}(h:mQ g P.xs=true)(hi:∀r∈P.xs,Input r):fC P (fu g P.xs)<=P.xs.length*554:=by
 have aK:=ii (CA.1 h).1;have h1:c4 h2 (fu g P.xs).aq=P.xs.length*8:=by
  have e:c4 h2 (fu g P.xs).aq=c4 (fun w:Nat=>8*(own g P.xs w).length) (List.range g.aq.toNat):=by
   unfold fu pA c4;rw[List.map_map]
   congr 1
   refine lq fun w _=>?_
   change 0+0+c4 (fun r=>wt r+1) (own g P.xs w)=_;have:c4 (fun r=>wt r+1) (own g P.xs w)=c4 (fun _=>8) (own g P.xs w):=xR fun r az=>by
    have:=(hi r (Gl az).1).1;unfold wt nW;rw[aZ this]
   rw[this];simp only[c4,List.map_const',List.sum_replicate_nat];omega
  have e2:∀ws:List Nat,c4 (fun w:Nat=>8*(own g P.xs w).length) ws=8*c4 (fun w:Nat=>(own g P.xs w).length) ws:=fun ws=>by
   induction ws with
   | nil=>rfl
   | cons w ws dk=>rw[mr,mr,dk];omega
  rw[e,e2,VH aK.1 P.xs fun r az=>by have:=(hi r az).2.2.1;omega];omega
 have U:c4 po (fu g P.xs).bK=0:=by
  have:c4 po (fu g P.xs).bK=c4 (fun _=>0) (fu g P.xs).bK:=xR fun l aj=>by
   rw[List.eq_of_mem_replicate aj];rfl
  rw[this,zT]
 have ax:=ajM P.k (fu g P.xs).ay.aq (1+P.a) P.b ((fu g P.xs).aq.map aL.cells) P.xs;unfold fC kI.bi;omega
