/- Drawn graphs, picks and runs. -/
import Derived.Test.YtenekpkjlgddnaaGreatP61
import Derived.Test.YtenekpkjlgddnaaGreatP16
import Derived.Test.YtenekpkjlgddnaaGreatR33
import Derived.Test.YtenekpkjlgddnaaGreatP59
set_option linter.unusedVariables false
set_option linter.unusedSimpArgs false
namespace Go.Proofs.YtenekpkjlgddnaaGreat
open Go.Sx Go.RowKit Go.Proofs.Tryz
def qec(k a b:Int):List Node:=[⟨1,0,0,[1]⟩,⟨k,0,0,[2,5]⟩,⟨4,1+a,0,[3]⟩,⟨2,b,0,[4]⟩,⟨7,0,0,[1]⟩,⟨8,0,0,[]⟩]
def qbZ(k a b c:Int):Nat→List Node
 | 0=>(qec k a b).set 3 ⟨3,1+c,0,[4]⟩
 | 1=>(qec k a b).set 4 ⟨8,0,0,[]⟩
 | 2=>(qec k a b).set 2 ⟨4,1+a,0,[3,4]⟩
 | 3=>(qec k a b++[(⟨8,0,0,[]⟩:Node)]).set 0 ⟨1,0,0,[1,6]⟩
 | _=>qec k a b
structure Drawn (g:Graph):Prop where
 nodes:∃(k a b c:Int) (v:Nat),(k=5∨k=6)∧(0≤a∧a<3)∧(0≤b∧b<4)∧(0≤c∧c<3)∧v≤4∧g.nodes=qbZ k a b c v
 workers:1≤g.workers∧g.workers≤3
 cap:1≤g.cap∧g.cap≤3
theorem Drawn.ok{g:Graph}(h:Drawn g):qak g=true:=by
 obtain⟨⟨k,a,b,c,v,hk,ha,hb,hc,hv,hn⟩,hw,hcap⟩:=h
 obtain⟨nodes,workers,cap⟩:=g
 simp only at hn hw hcap
 have ea:a=0∨a=1∨a=2:=by omega
 have eb:b=0∨b=1∨b=2∨b=3:=by omega
 have ec:c=0∨c=1∨c=2:=by omega
 have ev:v=0∨v=1∨v=2∨v=3∨v=4:=by omega
 have ew:workers=1∨workers=2∨workers=3:=by omega
 have ep:cap=1∨cap=2∨cap=3:=by omega
 have key:∀k∈[(5:Int),6],∀a∈[(0:Int),1,2],∀b∈[(0:Int),1,2,3],∀c∈[(0:Int),1,2],∀v∈[0,1,2,3,4],(!(anyI (qaX ⟨qbZ k a b c v,1,1⟩) 0 (qbZ k a b c v))&&decide ((qbZ k a b c v).length≤7)&&decide (1≤(qbZ k a b c v).length))=true:=by decide +kernel
 have:=key k (by rcases hk with h | h<;>simp[h]) a (by rcases ea with h | h | h<;>simp[h]) b (by rcases eb with h | h | h | h<;>simp[h]) c (by rcases ec with h | h | h<;>simp[h]) v (by rcases ev with h | h | h | h | h<;>simp[h])
 simp only[zj,zi]at this
 obtain⟨⟨h1,h2⟩,h3⟩:=this
 subst hn
 have hnb:qaX ⟨qbZ k a b c v,workers,cap⟩=qaX ⟨qbZ k a b c v,1,1⟩:=rfl
 unfold qak
 simp only[zj]
 rw[hnb]
 refine⟨⟨⟨?_,?_⟩,?_⟩,h1⟩
 ·simp only[inR,zj,zi];omega
 ·simp only[inR,zj,zi];omega
 ·simp only[inR,zj,zi];omega
theorem qtw(b:List Int)(c:Cur)(hc:c.ok b):∃(d:Cur) (g:Graph),d.ok b∧Drawn g∧RetR prog 9 [.cur (c.e b) (d.e b)] (.vals [.agg g.e]):=by
 obtain⟨d1,n1,o1,h1,r1⟩:=qbi b c 3 hc (by omega)
 obtain⟨d2,n2,o2,h2,r2⟩:=qbi b d1 3 o1 (by omega)
 obtain⟨d3,x,o3,r3⟩:=qoc b d2 3 o2 (by omega)
 obtain⟨d4,n4,o4,h4,r4⟩:=qbi b d3 3 o3 (by omega)
 obtain⟨d5,n5,o5,h5,r5⟩:=qbi b d4 4 o4 (by omega)
 obtain⟨d6,n6,o6,h6,r6⟩:=qbi b d5 3 o5 (by omega)
 obtain⟨d7,n7,o7,h7,r7⟩:=qbi b d6 6 o6 (by omega)
 have i1:inInt .i64 (1+n1):=⟨by omega,by omega⟩
 have i2:inInt .i64 (1+n2):=⟨by omega,by omega⟩
 have i4:inInt .i64 (1+n4):=⟨by omega,by omega⟩
 have i6:inInt .i64 (1+n6):=⟨by omega,by omega⟩
 have fin:∀(k:Int) (v:Nat) {ds:List (List D)},(k=5∨k=6)→v≤4→FitR ds ((qbZ k n4 n5 n6 v).map Node.e)→RetR prog 9 [.cur (c.e b) (d7.e b)] (.vals [.agg [.sl 4 ds,I (1+n1),I (1+n2)]])→
   ∃(d:Cur) (g:Graph),d.ok b∧Drawn g∧RetR prog 9 [.cur (c.e b) (d.e b)] (.vals [.agg g.e]):=by
  intro k v ds hk hv hf hr
  exact⟨d7,⟨qbZ k n4 n5 n6 v,1+n1,1+n2⟩,o7,⟨⟨k,n4,n5,n6,v,hk,h4,h5,h6,hv,rfl⟩,by dsimp only;omega,by dsimp only;omega⟩,
   hr.fit (.cons (.agg (.cons (.sl 4 hf) (FitE.refl _))) .nil)⟩
 have f1:∀d,Fit d d:=.refl
 by_cases e0:n7=0
 ·cases x
  ·exact fin 5 0 (.inl rfl) (by omega) (by repeat (first | exact .refl _ | constructor)) (qnQ _ _ _ _ _ _ _ _ _ _ _ _ _ _ _ _ _ _ _ _ _ _ _ _ _ _ _ _ ⟨r1,i1,r2,i2,r3,rfl,r4,i4,r5,r6,i6,r7,by simp[e0],by omega,by simp,rfl,trivial⟩)
  ·exact fin 6 0 (.inr rfl) (by omega) (by repeat (first | exact .refl _ | constructor)) (qnL _ _ _ _ _ _ _ _ _ _ _ _ _ _ _ _ _ _ _ _ _ _ _ _ _ _ _ _ ⟨r1,i1,r2,i2,r3,rfl,r4,i4,r5,r6,i6,r7,by simp[e0],by omega,by simp,rfl,trivial⟩)
 by_cases e1:n7=1
 ·cases x
  ·exact fin 5 1 (.inl rfl) (by omega) (by repeat (first | exact .refl _ | constructor)) (qnR _ _ _ _ _ _ _ _ _ _ _ _ _ _ _ _ _ _ _ _ _ _ _ _ _ _ _ _ ⟨r1,i1,r2,i2,r3,rfl,r4,i4,r5,r6,i6,r7,by simp[e0],by simp[e1],by omega,by simp,rfl,trivial⟩)
  ·exact fin 6 1 (.inr rfl) (by omega) (by repeat (first | exact .refl _ | constructor)) (qnM _ _ _ _ _ _ _ _ _ _ _ _ _ _ _ _ _ _ _ _ _ _ _ _ _ _ _ _ ⟨r1,i1,r2,i2,r3,rfl,r4,i4,r5,r6,i6,r7,by simp[e0],by simp[e1],by omega,by simp,rfl,trivial⟩)
 by_cases e2:n7=2
 ·cases x
  ·exact fin 5 2 (.inl rfl) (by omega) (by repeat (first | exact .refl _ | constructor)) (qnS _ _ _ _ _ _ _ _ _ _ _ _ _ _ _ _ _ _ _ _ _ _ _ _ _ _ _ _ ⟨r1,i1,r2,i2,r3,rfl,r4,i4,r5,r6,i6,r7,by simp[e0],by simp[e1],by simp[e2],by omega,by simp,rfl,trivial⟩)
  ·exact fin 6 2 (.inr rfl) (by omega) (by repeat (first | exact .refl _ | constructor)) (qnN _ _ _ _ _ _ _ _ _ _ _ _ _ _ _ _ _ _ _ _ _ _ _ _ _ _ _ _ ⟨r1,i1,r2,i2,r3,rfl,r4,i4,r5,r6,i6,r7,by simp[e0],by simp[e1],by simp[e2],by omega,by simp,rfl,trivial⟩)
 by_cases e3:n7=3
 ·cases x
  ·exact fin 5 3 (.inl rfl) (by omega) (by repeat (first | exact .refl _ | constructor)) (qnT _ _ _ _ _ _ _ _ _ _ _ _ _ _ _ _ _ _ _ _ _ _ _ _ _ _ _ _ ⟨r1,i1,r2,i2,r3,rfl,r4,i4,r5,r6,i6,r7,by simp[e0],by simp[e1],by simp[e2],by simp[e3],by simp,by simp,by omega,by simp,rfl,trivial⟩)
  ·exact fin 6 3 (.inr rfl) (by omega) (by repeat (first | exact .refl _ | constructor)) (qnO _ _ _ _ _ _ _ _ _ _ _ _ _ _ _ _ _ _ _ _ _ _ _ _ _ _ _ _ ⟨r1,i1,r2,i2,r3,rfl,r4,i4,r5,r6,i6,r7,by simp[e0],by simp[e1],by simp[e2],by simp[e3],by simp,by simp,by omega,by simp,rfl,trivial⟩)
 ·cases x
  ·exact fin 5 4 (.inl rfl) (by omega) (by repeat (first | exact .refl _ | constructor)) (qnU ⟨r1,i1,r2,i2,r3,rfl,r4,i4,r5,r6,i6,r7,by simp[e0],by simp[e1],by simp[e2],by simp[e3],trivial⟩)
  ·exact fin 6 4 (.inr rfl) (by omega) (by repeat (first | exact .refl _ | constructor)) (qnP ⟨r1,i1,r2,i2,r3,rfl,r4,i4,r5,r6,i6,r7,by simp[e0],by simp[e1],by simp[e2],by simp[e3],trivial⟩)
def qeT(p:Pick):Prop:=(1≤p.kind∧p.kind≤7)∧(0≤p.a∧p.a<3)∧(0≤p.b∧p.b<3)
theorem qtx(b:List Int)(c:Cur)(hc:c.ok b):∃(d:Cur) (p:Pick),d.ok b∧qeT p∧RetR prog 29 [.cur (c.e b) (d.e b)] (.vals [.agg p.e]):=by
 obtain⟨d1,k,o1,h1,r1⟩:=qod b c [1,1,1,2,3,3,3,4,4,5,6,6,7] hc (by simp)
 obtain⟨d2,a,o2,h2,r2⟩:=qbi b d1 3 o1 (by omega)
 have hk:1≤k∧k≤7:=by
  simp only[zL,zbu,or_false]at h1
  omega
 by_cases e4:k=4
 ·obtain⟨d3,m,o3,h3,r3⟩:=qbi b d2 2 o2 (by omega)
  have j1:inInt .i64 (a+1):=⟨by omega,by omega⟩
  have j2:inInt .i64 (a+1+m):=⟨by omega,by omega⟩
  exact⟨d3,⟨k,a,(a+1+m).tmod 3⟩,o3,⟨hk,h2,Int.tmod_nonneg _ (by omega),Int.tmod_lt_of_pos _ (by omega)⟩,qnZ ⟨r1,r2,by simp[e4],qnY _ _ _ _ _ _ _ _ ⟨j1,r3,j2,by decide,trivial⟩,trivial⟩⟩
 by_cases e5:k=5
 ·obtain⟨d3,m,o3,h3,r3⟩:=qbi b d2 2 o2 (by omega)
  have j1:inInt .i64 (a+1):=⟨by omega,by omega⟩
  have j2:inInt .i64 (a+1+m):=⟨by omega,by omega⟩
  exact⟨d3,⟨k,a,(a+1+m).tmod 3⟩,o3,⟨hk,h2,Int.tmod_nonneg _ (by omega),Int.tmod_lt_of_pos _ (by omega)⟩,qn1 ⟨r1,r2,by simp[e4],by simp[e5],qn0 _ _ _ _ _ _ _ _ ⟨j1,r3,j2,by decide,trivial⟩,trivial⟩⟩
 ·exact⟨d2,⟨k,a,0⟩,o2,⟨hk,h2,by dsimp only;omega⟩,qn2 ⟨r1,r2,by simp[e4],by simp[e5],trivial⟩⟩
theorem flatP(p:Pick):Flat [p.e]:=qbA fun d hd=>by
 simp only[Pick.e,zL,zbu,or_false]at hd
 rcases hd with rfl | rfl | rfl<;>exact⟨_,rfl⟩
theorem qk6(b:List Int)(m:Nat)(hm:m≤1000):∀(n i:Nat) (xs:List Pick) (c:Cur),i+n=m+1→c.ok b→xs.length≤i→(∀p∈xs,qeT p)→
  ∃(ys:List Pick) (d:Cur),d.ok b∧ys.length≤m+1∧(∀p∈ys,qeT p)∧qai prog (qab f11 0) (qeO (b.map eU) m i (xs.map Pick.e) c.i c.h) (.exit 0) (qhL (b.map eU) (ys.map Pick.e) d.i d.h)
 | n,i,xs,c,hin,hc,hl,hx=>by
  obtain⟨d1,k,o1,hk,r1⟩:=qbi b c ((m:Int)+1) hc (by omega)
  by_cases h:(i:Int)<k
  ·match n with
   | 0=>omega
   | n+1=>
    obtain⟨d2,p,o2,hp,r2⟩:=qtx b d1 o1
    obtain⟨ys,d,o,y1,y2,l⟩:=qk6 b m hm n (i+1) (xs++[p]) d2 (by omega) o2 (by simp;omega) (fun z hz=>by
     rcases zaz.1 hz with hz | hz
     ·exact hx z hz
     ·rw[List.mem_singleton]at hz;subst hz;exact hp)
    refine⟨ys,d,o,y1,y2,.more ?_ l⟩
    rw[zU]
    exact qn3 ⟨⟨by omega,by omega⟩,r1,zap h,r2,by simp;omega,by simp;omega,flatP p,⟨by omega,by omega⟩,trivial⟩
  ·exact⟨xs,d1,o1,by omega,hx,.last (qaj 0) (qn4 ⟨⟨by omega,by omega⟩,r1,zt h,trivial⟩)⟩
theorem qty(b:List Int)(c:Cur)(m:Nat)(hm:m≤1000)(hc:c.ok b):∃(d:Cur) (ps:List Pick),d.ok b∧ps.length≤m+1∧(∀p∈ps,qeT p)∧RetR prog 11 [.cur (c.e b) (d.e b),.ro (.one (I m))] (.vals [.one (.sl 3 (ps.map Pick.e))]):=by
 obtain⟨ys,d,o,y1,y2,l⟩:=qk6 b m hm (m+1) 0 [] c (by omega) hc (by simp) (by simp)
 exact⟨d,ys,o,y1,y2,qn5 ⟨l,trivial⟩⟩
theorem qtz(b:List Int)(hb:Bytes b):∃(g:Graph) (xs:List Record) (ps:List Pick),Drawn g∧(xs.length≤6∧∀r∈xs,Input r)∧(ps.length≤81∧∀p∈ps,qeT p)∧
  Rt 5 [.one (.sl 1 (b.map eU))] [.agg g.e,.one (.sl 5 (xs.map Record.e)),.one (.sl 3 (ps.map Pick.e))]:=by
 obtain⟨c,hc,r0⟩:=qob b hb
 obtain⟨d1,g,o1,hg,r1⟩:=qtw b c hc
 obtain⟨d2,xs,o2,x1,x2,r2⟩:=qo1 b d1 o1
 obtain⟨d3,ps,o3,p1,p2,r3⟩:=qty b d2 80 (by omega) o2
 exact⟨g,xs,ps,hg,⟨x1,x2⟩,⟨p1,p2⟩,qn6 ⟨r0,r1,r2,r3,trivial⟩⟩
end Go.Proofs.YtenekpkjlgddnaaGreat
namespace Go.Proofs.YtenekpkjlgddnaaGreat
open Go.Sx Go.RowKit Go.Proofs.Tryz
theorem Drawn.size{g:Graph}(h:Drawn g):g.sz≤100:=by
 obtain⟨⟨k,a,b,c,v,hk,ha,hb,hc,hv,hn⟩,hw,hcap⟩:=h
 obtain⟨nodes,workers,cap⟩:=g
 simp only at hn
 subst hn
 have e:(⟨qbZ k a b c v,workers,cap⟩:Graph).sz=szS Node.sz (qbZ k a b c v):=rfl
 rw[e]
 have ev:v=0∨v=1∨v=2∨v=3∨v=4:=by omega
 rcases ev with rfl | rfl | rfl | rfl | rfl<;>simp[szS,qbZ,qec,Node.sz]
theorem Input.fine{r:Record}(h:Input r):qcI r=false:=by
 obtain⟨h1,h2,h3,h4,h5⟩:=h
 have ok:qao r=true:=by
  simp only[qao,qaV,qaC,inR,zj,zi,h1,h2]
  omega
 simp[qcI,ok,h1,h2]
theorem qxE{g:Graph}{xs:List Record}(hg:Drawn g)(hl:xs.length≤6)(hx:∀r∈xs,Input r):newOk g xs=true:=
 qlR.2 ⟨hg.ok,by omega,zP.2 fun r hr=>by simp[(hx r hr).fine]⟩
end Go.Proofs.YtenekpkjlgddnaaGreat
