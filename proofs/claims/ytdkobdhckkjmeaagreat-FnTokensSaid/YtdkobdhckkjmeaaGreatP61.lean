import Derived.Test.YtdkobdhckkjmeaaGreatB0
import Derived.Test.YtdkobdhckkjmeaaGreatT5
import Derived.Test.YtdkobdhckkjmeaaGreatR35
import Derived.Test.YtdkobdhckkjmeaaGreatGD
import Derived.Test.YtdkobdhckkjmeaaGreatC0
import Derived.Test.YtdkobdhckkjmeaaGreatP72
import Derived.Test.YtdkobdhckkjmeaaGreatP43
import Derived.Test.YtdkobdhckkjmeaaGreatP21
import Derived.Test.YtdkobdhckkjmeaaGreatGY
import Derived.Test.YtdkobdhckkjmeaaGreatP16
import Derived.Test.YtdkobdhckkjmeaaGreatR33
set_option linter.unusedVariables false
set_option linter.unusedSimpArgs false
namespace Go.Proofs.YtdkobdhckkjmeaaGreat
open Go.Sx Go.RowKit Go.Proofs.Tryz
def eU(n:Int):List D:=[.v (.int .u8 n)]
structure Cur where
 i:Int
 h:Int
def Cur.e(b:List Int)(c:Cur):List D:=[.sl 1 (b.map eU),I c.i,I c.h]
def Bytes(b:List Int):Prop:=b.length≤8388608∧∀x∈b,0≤x∧x≤255
def Cur.ok(b:List Int)(c:Cur):Prop:=Bytes b∧0≤c.i∧c.i≤b.length
theorem u8_of{P:Program}{t:TypeId}{ds:List D}(hu:P.underlying t=some (.int .u8))(h:ShD P t ds):∃n,ds=eU n∧0≤n∧n≤255:=by
 have h2:∃n,ds=[.v (.int .u8 n)]∧(Lit.int .u8 n).wf=true:=by cases h<;>simp_all
 obtain⟨n,e,hw⟩:=h2;refine⟨n,e,?_⟩;simp[Lit.wf]at hw;have h3:IntKind.u8.min=0:=rfl;rw[h3]at hw;exact hw
theorem qws:prog.cellsOf 5=1:=by kernel_rfl
theorem qwt{ds:List D}(h:ShD prog 22 ds):∃xs:List Int,ds=[.sl 1 (xs.map eU)]∧(xs.length:Int)≤9223372036854775807∧∀a∈xs,(fun n=>0≤n∧n≤255) a:=
 qvN eU (fun n=>0≤n∧n≤255) Tryz.underlying22 qws (fun ds h=>u8_of Tryz.underlying5 h) h
theorem qpX{ad:AD}(h:ShA prog 22 ad):∃xs:List Int,ad=.one (.sl 1 (xs.map eU))∧(xs.length:Int)≤9223372036854775807∧∀a∈xs,(fun n=>0≤n∧n≤255) a:=by
 cases ad with
 | agg ds=>have:=h.2;simp[aggT,Tryz.underlying22]at this
 | one d=>
  obtain⟨x,e,hx⟩:=qwt h.1;obtain rfl:=(zG e).1;exact⟨x,rfl,hx⟩
theorem qpY{P:Program}(a:Int)(n:Nat):∃m:Int,∀t x y,qbJ P .shr t x y (.int .i64 a) (.int .u64 (n:Int)) (.int .i64 m):=⟨_,fun _ _ _=>qvO _ _ _ _⟩
theorem qwu{P:Program}(a b:Int):∃m:Int,∀t x y,qbJ P .xor t x y (.int .i64 a) (.int .i64 b) (.int .i64 m):=⟨_,fun _ _ _=>qvP _ _ _⟩
theorem qmb{P:Program}(a:Int)(k:Nat)(hk:k<2 ^ 62):∃m:Int,(0≤m∧m≤k)∧∀t x y,qbJ P .and t x y (.int .i64 a) (.int .i64 (k:Int)) (.int .i64 m):=⟨_,qvR a k hk,fun _ _ _=>qvQ _ _ _⟩
theorem qpZ(b:List Int)(hb:Bytes b):∀(n i:Nat) (h:Int),i+n=b.length→0≤h∧h≤1073741823→∃h',qam prog (qaa f117 0) (qgf (b.map eU) i h) (.exit 0) (qjq (b.map eU) h')
 | 0,i,h,hi,hh=>⟨h,.last (qaf 0) (qvY ⟨by rw[zf,zb];omega,trivial⟩)⟩
 | n+1,i,h,hi,hh=>by
  have hl:=hb.1;obtain⟨x,hx⟩:=qal (xs:=b) (i:=i) (by omega);have hb:=hb.2 x (qag hx);by_cases h4:(i:Int)<4000
  ·obtain⟨m,hm,r⟩:=qmb (P:=prog) (h*131+x+7) 1073741823 (by decide);obtain⟨h',l⟩:=qpZ b ‹Bytes b› n (i+1) m (by omega) hm;exact⟨h',.more (qvW ⟨lt1 (by omega),zap h4,⟨by omega,by omega⟩,lt0,lt2 (by omega),qac eU hx,⟨by omega,by omega⟩,⟨by omega,by omega⟩,⟨by omega,by omega⟩,r _ _ _,⟨by omega,by omega⟩,trivial⟩) l⟩
  ·exact⟨h,.last (qaf 0) (qvX ⟨lt1 (by omega),zt h4,trivial⟩)⟩
theorem qp0(b:List Int)(hb:Bytes b):∃c:Cur,c.ok b∧RetR prog 117 [.ro (.one (.sl 1 (b.map eU)))] (.newp [some 0,none,none] (c.e b)):=by
 have hl:=hb.1;obtain⟨h',l⟩:=qpZ b hb b.length 0 (94701+(↑(b.map eU).length:Int)) (by omega) ⟨by omega,by simp;omega⟩;exact⟨⟨0,h'⟩,⟨hb,by dsimp only;omega,by dsimp only;omega⟩,qvZ ⟨⟨by omega,by simp;omega⟩,l,trivial⟩⟩
theorem qjr(b:List Int)(c:Cur)(hc:c.ok b):∃(d:Cur) (n:Int),d.ok b∧(0≤n∧n≤255)∧RetR prog 253 [.cur (c.e b) (d.e b)] (.vals [.one (I n)]):=by
 obtain⟨⟨h1,h2⟩,h3,h4⟩:=hc;obtain⟨n3,r3⟩:=qpY (P:=prog) (IntKind.i64.wrap (IntKind.i64.wrap (c.h*6364136223846793005)+1442695040888963407)) 33;obtain⟨n4,r4⟩:=qpY (P:=prog) (IntKind.i64.wrap (IntKind.i64.wrap (c.h*6364136223846793005)+1442695040888963407)) 45;obtain⟨n5,r5⟩:=qwu (P:=prog) n3 n4;obtain⟨n6,m6,r6⟩:=qmb (P:=prog) n5 255 (by decide);by_cases hi:c.i<b.length
 ·obtain⟨x,hx⟩:=qal (xs:=b) (i:=c.i.toNat) (by omega);have hb:=h2 x (qag hx);obtain⟨n8,m8,r8⟩:=qmb (P:=prog) (IntKind.i64.wrap (n6+IntKind.i64.wrap x)) 255 (by decide);exact⟨⟨c.i+1,IntKind.i64.wrap (IntKind.i64.wrap (c.h*6364136223846793005)+1442695040888963407)⟩,n8,⟨⟨h1,h2⟩,by dsimp only;omega,by dsimp only;omega⟩,m8,qv0 ⟨r3 _ _ _,r4 _ _ _,r5 _ _ _,r6 _ _ _,by rw[zi,zb];exact hi,h3,by rw[zb];exact hi,by rw[zr,hx];rfl,r8 _ _ _,⟨by omega,by omega⟩,trivial⟩⟩
 ·exact⟨⟨c.i,IntKind.i64.wrap (IntKind.i64.wrap (c.h*6364136223846793005)+1442695040888963407)⟩,n6,⟨⟨h1,h2⟩,h3,h4⟩,m6,qv1 ⟨r3 _ _ _,r4 _ _ _,r5 _ _ _,r6 _ _ _,by rw[zf,zb];exact hi,trivial⟩⟩
theorem qbV(b:List Int)(c:Cur)(k:Int)(hc:c.ok b)(hk:1≤k∧k≤1000000):∃(d:Cur) (n:Int),d.ok b∧(0≤n∧n<k)∧RetR prog 139 [.cur (c.e b) (d.e b),.ro (.one (I k))] (.vals [.one (I n)]):=by
 have md:∀m:Int,0≤m→0≤m.tmod k∧m.tmod k<k:=fun m hm=>⟨Int.tmod_nonneg _ hm,Int.tmod_lt_of_pos m (by omega)⟩
 obtain⟨d1,n1,o1,b1,r1⟩:=qjr b c hc;by_cases h:k≤256
 ·exact⟨d1,_,o1,md n1 b1.1,qv2 ⟨zt (by omega),zap h,r1,by omega,trivial⟩⟩
 ·obtain⟨d2,n2,o2,b2,r2⟩:=qjr b d1 o1;obtain⟨d3,n3,o3,b3,r3⟩:=qjr b d2 o2;obtain⟨d4,n4,o4,b4,r4⟩:=qjr b d3 o3;exact⟨d4,_,o4,md _ (by omega),qv3 ⟨zt (by omega),zt h,r1,r2,r3,r4,⟨by omega,by omega⟩,⟨by omega,by omega⟩,⟨by omega,by omega⟩,⟨by omega,by omega⟩,⟨by omega,by omega⟩,⟨by omega,by omega⟩,by omega,trivial⟩⟩
theorem qp1(b:List Int)(c:Cur)(k:Int)(hc:c.ok b)(hk:1≤k∧k≤1000000):∃(d:Cur) (x:Bool),d.ok b∧RetR prog 137 [.cur (c.e b) (d.e b),.ro (.one (I k))] (.vals [.one (B x)]):=by
 obtain⟨d,n,o,_,r⟩:=qbV b c k hc hk;exact⟨d,_,o,qv4 ⟨r,trivial⟩⟩
theorem qwv(b:List Int)(c:Cur)(xs:List Int)(hc:c.ok b)(hk:1≤xs.length∧xs.length≤1000):∃(d:Cur) (n:Int),d.ok b∧n∈xs∧RetR prog 141 [.cur (c.e b) (d.e b),.ro (.one (.sl 1 (xs.map eI)))] (.vals [.one (I n)]):=by
 obtain⟨d,n,o,hb,r⟩:=qbV b c (xs.length:Int) hc (by omega);obtain⟨x,hx⟩:=qal (xs:=xs) (i:=n.toNat) (by omega);refine⟨d,x,o,qag hx,qv5 ⟨?_,hb.1,by rw[zb];exact hb.2,by rw[zr,hx];rfl,trivial⟩⟩;rw[zb];exact r
end Go.Proofs.YtdkobdhckkjmeaaGreat
namespace Go.Proofs.YtdkobdhckkjmeaaGreat
open Go.Sx Go.RowKit Go.Proofs.Tryz
def Input(r:Record):Prop:=r.op=0∧r.stamp.turn=0∧(0≤r.stamp.epoch∧r.stamp.epoch≤2)∧(0≤r.key∧r.key<12)∧(0≤r.val∧r.val<40)
theorem qqq(b:List Int):∀(n i:Nat) (e:Int) (xs:List Record) (c:Cur),i+n=5→c.ok b→(0≤e∧e≤2)→xs.length≤i→(∀r∈xs,Input r)→
  ∃(ys:List Record) (d:Cur),d.ok b∧ys.length≤5∧(∀r∈ys,Input r)∧qam prog (qaa f119 0) (qho (b.map eU) i e (xs.map Record.e) c.i c.h) (.exit 0) (ql7 (b.map eU) (ys.map Record.e) d.i d.h)
 | n,i,e,xs,c,hin,hc,he,hl,hx=>by
  obtain⟨d1,m,o1,hb,r1⟩:=qbV b c 6 hc (by omega);by_cases h:(i:Int)<m
  ·match n with
   | 0=>omega
   | n+1=>
    obtain⟨d2,a,o2,ha,r2⟩:=qbV b d1 2 o1 (by omega);obtain⟨d3,k,o3,hk,r3⟩:=qbV b d2 12 o2 (by omega);obtain⟨d4,v,o4,hv,r4⟩:=qbV b d3 40 o3 (by omega);have br:=qjt (e+a) 0 2;have hbr:0≤qaU (e+a) 0 2∧qaU (e+a) 0 2≤2:=by
     unfold qaU;simp only[show ¬(2:Int)<0 by omega,zci];split<;>(try split)<;>omega
    obtain⟨ys,d,o,y1,y2,l⟩:=qqq b n (i+1) (qaU (e+a) 0 2) (xs++[⟨0,⟨qaU (e+a) 0 2,0⟩,k,v⟩]) d4 (by omega) o4 hbr (by simp;omega) (fun r hr=>by
     rcases zaz.1 hr with hr | hr
     ·exact hx r hr
     ·rw[List.mem_singleton]at hr;subst hr;exact⟨rfl,rfl,hbr,hk,hv⟩)
    refine⟨ys,d,o,y1,y2,.more ?_ l⟩;rw[zU];exact qwg ⟨r1,zap h,r2,⟨by omega,by omega⟩,br,r3,r4,by simp;omega,by simp;omega,qat (fun d hd=>by simp only[zL,zbu,or_false]at hd;rcases hd with rfl | rfl | rfl | rfl | rfl<;>exact⟨_,rfl⟩),⟨by omega,by omega⟩,trivial⟩
  ·exact⟨xs,d1,o1,by omega,hx,.last (qaf 0) (qwh ⟨r1,zt h,trivial⟩)⟩
theorem qqr(b:List Int)(c:Cur)(hc:c.ok b):∃(d:Cur) (xs:List Record),d.ok b∧xs.length≤5∧(∀r∈xs,Input r)∧RetR prog 119 [.cur (c.e b) (d.e b)] (.vals [.one (.sl 5 (xs.map Record.e))]):=by
 obtain⟨ys,d,o,y1,y2,l⟩:=qqq b 5 0 0 [] c rfl hc (by omega) (by simp) (by simp);exact⟨d,ys,o,y1,y2,qwi ⟨l,trivial⟩⟩
end Go.Proofs.YtdkobdhckkjmeaaGreat
namespace Go.Proofs.YtdkobdhckkjmeaaGreat
open Go.Sx Go.RowKit Go.Proofs.Tryz
def qcn(r:Record):Bool:=!qaB r||r.op != 0||r.stamp.turn != 0
def ownAt(g:Graph)(xs:List Record)(w e:Int):List Record:=xs.filter fun r=>r.stamp.epoch==e&&qax r.key g.workers==w
def ownTo(g:Graph)(xs:List Record)(w:Int)(n:Nat):List Record:=(List.range n).flatMap fun e=>ownAt g xs w (e:Nat)
def own(g:Graph)(xs:List Record)(w:Int):List Record:=ownTo g xs w 4
def qcb(xs:List Record):Worker:=⟨[],[],xs,[],List.replicate 4 0,List.replicate 4 false,List.replicate 4 false,[]⟩
def qbG(cap:Int):Link:=⟨qaU cap 1 4,[],qaU cap 1 4,0,0,0⟩
def tok0:Token:=⟨false,0,0,false,false⟩
def qco(g:Graph)(xs:List Record)(n:Nat):List Worker:=(List.range n).map fun w=>qcb (own g xs (w:Nat))
def qaI(g:Graph)(xs:List Record):Cluster:=⟨g,qco g xs g.workers.toNat,List.replicate (g.workers.toNat*g.workers.toNat) (qbG g.cap),List.replicate 4 tok0,[]⟩
def qsO:Cluster:=⟨⟨[],0,0⟩,[],[],[],[]⟩
def newOk(g:Graph)(xs:List Record):Bool:=qaw g&&decide (xs.length≤20)&&!xs.any qcn
def qez(g:Graph)(xs:List Record):Cluster×Bool:=if newOk g xs then (qaI g xs,true) else (qsO,false)
theorem qnm(g:Graph)(xs:List Record)(w:Int)(n:Nat):ownTo g xs w (n+1)=ownTo g xs w n++ownAt g xs w (n:Nat):=by
 simp[ownTo,List.range_succ]
theorem qsP(g:Graph)(xs:List Record)(w:Int)(n:Nat):(ownTo g xs w n).length≤n*xs.length:=by
 have h:=qgi (fun e:Nat=>ownAt g xs w (e:Nat)) xs.length (fun _=>zat _ _) (List.range n);rwa[zct]at h
theorem qnn{g:Graph}{xs:List Record}(hl:xs.length≤20)(w:Int):(own g xs w).length≤80:=by
 have:=qsP g xs w 4;unfold own;omega
theorem qsQ{g:Graph}{xs:List Record}(hl:xs.length≤20)(w:Int){n:Nat}(hn:n<4):(ownTo g xs w n).length≤60:=by
 have:=qsP g xs w n;have:n*xs.length≤3*20:=Nat.mul_le_mul (by omega) hl;omega
theorem qsR(g:Graph)(xs:List Record)(n:Nat):qco g xs (n+1)=qco g xs n++[qcb (own g xs (n:Nat))]:=by
 simp[qco,List.range_succ]
theorem qgP(g:Graph)(xs:List Record)(n:Nat):(qco g xs n).length=n:=by simp[qco]
theorem qsS{α:Type}{f:α→List D}{x:α}{m:Nat}:(List.replicate m x).map f++[f x]=(List.replicate (m+1) x).map f:=by
 rw[List.replicate_succ',zU];rfl
theorem qLY(cap:Int):Rt 126 [.one (I cap)] [.agg (qbG cap).e]:=qLT ⟨qjt cap 1 4,trivial⟩
theorem qL0(xs:List Record)(hl:xs.length≤1000):Rt 124 [.one (.sl 5 (xs.map Record.e))] [.agg (qcb xs).e]:=
 qLV ⟨nl _ (by simp;omega),nl1 _ (by simp;omega),qae _ Record.flat _,by omega,by omega,by decide,by omega,by omega,by omega,by decide,by omega,by omega,by omega,by decide,by omega,trivial⟩
theorem qL2(g:Graph)(xs:List Record)(w:Int)(hn:1≤g.workers∧g.workers≤4)(hl:xs.length≤20):Rt 125 [.agg g.e,.one (.sl 5 (xs.map Record.e)),.one (I w)] [.one (.sl 5 ((own g xs w).map Record.e))]:=by
 have l1:=fun (e:Nat) (he:e<4) (acc:List Record) (ha:acc.length≤100)=>qao (P:=prog) (c:=(qaa f125 1)) (qaf 2) xs.length (fun i:Nat=>qdY (g.nodes.map Node.e) g.workers g.cap (xs.map Record.e) w e i ((acc++(xs.take i).filter fun r=>r.stamp.epoch==(e:Int)&&qax r.key g.workers==w).map Record.e)) (fun i hi=>by
  obtain⟨r,hr⟩:=qal hi;have hf:((xs.take i).filter fun r=>r.stamp.epoch==(e:Int)&&qax r.key g.workers==w).length≤20:=by
   have:=zat (fun r:Record=>r.stamp.epoch==(e:Int)&&qax r.key g.workers==w) (xs.take i);have:=qgE i xs;omega
  rw[qeY _ hr];generalize (xs.take i).filter (fun r=>r.stamp.epoch==(e:Int)&&qax r.key g.workers==w)=fs at*;have ow:=qrB r.key g.workers (by omega);cases h1:(r.stamp.epoch==(e:Int)) with
  | false=>
   rw[Bool.false_and,zo (by decide),zaa];exact qLO ⟨lt1 hi,lt0,lt2 hi,qac Record.e hr,h1,up1 hi (by omega),trivial⟩
  | true=>
   cases h2:(qax r.key g.workers==w) with
   | false=>
    rw[Bool.and_false,zo (by decide),zaa];exact qLN ⟨lt1 hi,lt0,lt2 hi,qac Record.e hr,h1,lt0,lt2 hi,qac Record.e hr,ow,h2,up1 hi (by omega),trivial⟩
   | true=>
    rw[zcs,zp rfl,←zba,qgC];exact qLM ⟨lt1 hi,lt0,lt2 hi,qac Record.e hr,h1,lt0,lt2 hi,qac Record.e hr,ow,h2,lt0,lt2 hi,qac Record.e hr,by simp;omega,by simp;omega,qat (Record.flat r),up1 hi (by omega),trivial⟩) (qLP ⟨ge1,trivial⟩)
 have l0:=qao (P:=prog) (c:=(qaa f125 0)) (qaf 0) 4 (fun n:Nat=>qh7 (g.nodes.map Node.e) g.workers g.cap (xs.map Record.e) w n ((ownTo g xs w n).map Record.e)) (fun n hn=>by
  have:=l1 n hn (ownTo g xs w n) (by have:=qsQ (g:=g) hl w hn;omega);rw[zC,List.take_zero,List.filter_nil,zaa]at this;rw[qnm];exact qLQ ⟨dT (by omega),this,⟨by omega,by omega⟩,trivial⟩) (qLR ⟨dF (by omega),trivial⟩)
 exact qLS ⟨l0,trivial⟩
theorem qgQ{g:Graph}{xs:List Record}(h:newOk g xs=false):qez g xs=(qsO,false):=by unfold qez;rw[h];rfl
theorem qka{g:Graph}{xs:List Record}(h:newOk g xs=true):qez g xs=(qaI g xs,true):=by unfold qez;rw[h];rfl
theorem qL3(g:Graph)(xs:List Record)(hl:xs.length≤20):
  (xs.any qcn=false∧qam prog (qaa f17 0) (qde (xs.map Record.e) 0 0 0 (g.nodes.map Node.e) g.workers g.cap) (.exit 0) (qnh (xs.map Record.e) 0 0 (g.nodes.map Node.e) g.workers g.cap))∨
  (xs.any qcn=true∧qam prog (qaa f17 0) (qde (xs.map Record.e) 0 0 0 (g.nodes.map Node.e) g.workers g.cap) .ret (qgK false 0 0)):=by
 have l:=qaW (P:=prog) (c:=(qaa f17 0)) xs qcn (fun i=>qde (xs.map Record.e) i 0 0 (g.nodes.map Node.e) g.workers g.cap) (e1:=.ret) (e2:=.exit 0) (X:=fun _ _=>qgK false 0 0) qaE (qaf 0)
  (fun i a ha h=>by
   simp only[qcn,zy]at h;have hi:=lt_of ha;exact qLm ⟨lt1 hi,lt0,lt2 hi,qac Record.e ha,qdQ a,h.1.1,lt0,lt2 hi,qac Record.e ha,h.1.2,lt0,lt2 hi,qac Record.e ha,h.2,up1 hi (by omega),trivial⟩)
  (fun i a ha h=>by
   have hi:=lt_of ha;have kr:=qdQ a;unfold qcn at h;cases h1:(!qaB a) with
   | true=>exact qLj ⟨lt1 hi,lt0,lt2 hi,qac Record.e ha,kr,h1,trivial⟩
   | false=>
    cases h2:(a.op != 0) with
    | true=>exact qLk ⟨lt1 hi,lt0,lt2 hi,qac Record.e ha,kr,h1,lt0,lt2 hi,qac Record.e ha,h2,trivial⟩
    | false=>
     rw[h1,h2,zal,zal]at h;exact qLl ⟨lt1 hi,lt0,lt2 hi,qac Record.e ha,kr,h1,lt0,lt2 hi,qac Record.e ha,h2,lt0,lt2 hi,qac Record.e ha,h,trivial⟩)
  (qLn ⟨ge1,trivial⟩)
 rcases l with⟨_,_,h1,h2⟩ | ⟨i,a,_,_,_,_,h1,h2⟩
 ·exact .inl ⟨h1,h2⟩
 ·exact .inr ⟨h1,h2⟩
theorem qL4(g:Graph)(xs:List Record)(hn:1≤g.workers∧g.workers≤4)(hl:xs.length≤20):
  qam prog (qaa f17 1) (qgL (xs.map Record.e) 0 (g.nodes.map Node.e) g.workers g.cap [] [] ((List.replicate 4 tok0).map Token.e) 0 0 (g.nodes.map Node.e) g.workers g.cap) (.exit 2)
   (qni (g.nodes.map Node.e) g.workers g.cap ((qco g xs g.workers.toNat).map Worker.e) ((List.replicate (g.workers.toNat*g.workers.toNat) (qbG g.cap)).map Link.e) ((List.replicate 4 tok0).map Token.e) 0 0):=by
 obtain⟨n,hnn⟩:∃n:Nat,g.workers=n:=⟨g.workers.toNat,by omega⟩
 have hn4:n≤4:=by omega
 have l2:=fun (w:Nat) (m:Nat) (W T:List (List D)) (hm:m≤16)=>qao (P:=prog) (c:=(qaa f17 2)) (qaf 4) n (fun k:Nat=>qh5 (xs.map Record.e) w k (g.nodes.map Node.e) g.workers g.cap W ((List.replicate (m+k) (qbG g.cap)).map Link.e) T 0 0 (g.nodes.map Node.e) g.workers g.cap) (fun k hk=>by
  rw[←zcv,←qsS];exact qLp ⟨dT (by omega),qLY g.cap,by simp;omega,by simp;omega,⟨by omega,by omega⟩,trivial⟩) (qLq ⟨dF (by omega),trivial⟩)
 have l1:=qao (P:=prog) (c:=(qaa f17 1)) (qaf 2) n (fun w:Nat=>qgL (xs.map Record.e) w (g.nodes.map Node.e) g.workers g.cap ((qco g xs w).map Worker.e) ((List.replicate (w*n) (qbG g.cap)).map Link.e) ((List.replicate 4 tok0).map Token.e) 0 0 (g.nodes.map Node.e) g.workers g.cap) (fun w hw=>by
  have hwl:=qgP g xs w;have hm:w*n≤3*4:=Nat.mul_le_mul (by omega) hn4;rw[qsR,qgC,show (w+1)*n=w*n+n by rw[zR,Nat.one_mul]];exact qLr ⟨dT (by omega),qL2 g xs w hn hl,qL0 _ (by have:=qnn (g:=g) hl (w:Nat);omega),by simp[hwl];omega,by simp[hwl];omega,l2 w (w*n) _ _ (by omega),⟨by omega,by omega⟩,trivial⟩) (qLs ⟨dF (by omega),trivial⟩)
 rw[show ((0:Nat)*n)=0 by omega]at l1;rw[hnn,zae];rw[hnn]at l1;exact l1
theorem qsT(g:Graph)(xs:List Record)(hg:g.sz≤8388608):Rt 17 [.agg g.e,.one (.sl 5 (xs.map Record.e))] [.agg (qez g xs).1.e,.one (B (qez g xs).2)]:=by
 have gk:=qjC g hg;cases h1:qaw g with
 | false=>
  rw[h1]at gk;rw[qgQ (by unfold newOk;rw[h1];rfl)];exact qLh ⟨gk,rfl,trivial⟩
 | true=>
 rw[h1]at gk;by_cases hl:xs.length≤20
 case neg=>
  rw[qgQ (by unfold newOk;rw[zt hl,Bool.and_false];rfl)];exact qLi ⟨gk,rfl,dT (by simp;omega),trivial⟩
 rcases qL3 g xs hl with⟨h2,l⟩ | ⟨h2,l⟩
 ·rw[qka (by unfold newOk;rw[h1,h2,zap hl];rfl)];exact qLt ⟨gk,rfl,dF (by simp;omega),l,qsC g hg,by omega,by omega,by decide,by omega,qL4 g xs (qa7 h1) hl,trivial⟩
 ·rw[qgQ (by unfold newOk;rw[h2];simp)];exact qLo ⟨gk,rfl,dF (by simp;omega),l,trivial⟩
end Go.Proofs.YtdkobdhckkjmeaaGreat
namespace Go.Proofs.YtdkobdhckkjmeaaGreat
open Go.Sx Go.RowKit Go.Proofs.Tryz
def qdt(k a b:Int):List Node:=[⟨1,0,0,[1]⟩,⟨k,0,0,[2,5]⟩,⟨4,1+a,0,[3]⟩,⟨2,b,0,[4]⟩,⟨7,0,0,[1]⟩,⟨8,0,0,[]⟩]
def qbL(k a b c:Int):Nat→List Node
 | 0=>(qdt k a b).set 3 ⟨3,1+c,0,[4]⟩
 | 1=>(qdt k a b).set 4 ⟨8,0,0,[]⟩
 | 2=>(qdt k a b).set 2 ⟨4,1+a,0,[3,4]⟩
 | 3=>(qdt k a b++[(⟨8,0,0,[]⟩:Node)]).set 0 ⟨1,0,0,[1,6]⟩
 | _=>qdt k a b
structure Drawn (g:Graph):Prop where
 nodes:∃(k a b c:Int) (v:Nat),(k=5∨k=6)∧(0≤a∧a<3)∧(0≤b∧b<4)∧(0≤c∧c<3)∧v≤4∧g.nodes=qbL k a b c v
 workers:1≤g.workers∧g.workers≤3
 cap:1≤g.cap∧g.cap≤3
theorem Drawn.ok{g:Graph}(h:Drawn g):qaw g=true:=by
 obtain⟨⟨k,a,b,c,v,hk,ha,hb,hc,hv,hn⟩,hw,hcap⟩:=h;obtain⟨nodes,workers,cap⟩:=g;simp only at hn hw hcap;have ea:a=0∨a=1∨a=2:=by omega
 have eb:b=0∨b=1∨b=2∨b=3:=by omega
 have ec:c=0∨c=1∨c=2:=by omega
 have ev:v=0∨v=1∨v=2∨v=3∨v=4:=by omega
 have ew:workers=1∨workers=2∨workers=3:=by omega
 have ep:cap=1∨cap=2∨cap=3:=by omega
 have key:∀k∈[(5:Int),6],∀a∈[(0:Int),1,2],∀b∈[(0:Int),1,2,3],∀c∈[(0:Int),1,2],∀v∈[0,1,2,3,4],(!(anyI (qbv ⟨qbL k a b c v,1,1⟩) 0 (qbL k a b c v))&&decide ((qbL k a b c v).length≤7)&&decide (1≤(qbL k a b c v).length))=true:=by decide +kernel
 have:=key k (by rcases hk with h | h<;>simp[h]) a (by rcases ea with h | h | h<;>simp[h]) b (by rcases eb with h | h | h | h<;>simp[h]) c (by rcases ec with h | h | h<;>simp[h]) v (by rcases ev with h | h | h | h | h<;>simp[h]);simp only[zj,zi]at this;obtain⟨⟨h1,h2⟩,h3⟩:=this;subst hn;have hnb:qbv ⟨qbL k a b c v,workers,cap⟩=qbv ⟨qbL k a b c v,1,1⟩:=rfl;unfold qaw;simp only[zj];rw[hnb];refine⟨⟨⟨?_,?_⟩,?_⟩,h1⟩
 ·simp only[inR,zj,zi];omega
 ·simp only[inR,zj,zi];omega
 ·simp only[inR,zj,zi];omega
theorem qq0(b:List Int)(c:Cur)(hc:c.ok b):∃(d:Cur) (g:Graph),d.ok b∧Drawn g∧RetR prog 118 [.cur (c.e b) (d.e b)] (.vals [.agg g.e]):=by
 obtain⟨d1,n1,o1,h1,r1⟩:=qbV b c 3 hc (by omega);obtain⟨d2,n2,o2,h2,r2⟩:=qbV b d1 3 o1 (by omega);obtain⟨d3,x,o3,r3⟩:=qp1 b d2 3 o2 (by omega);obtain⟨d4,n4,o4,h4,r4⟩:=qbV b d3 3 o3 (by omega);obtain⟨d5,n5,o5,h5,r5⟩:=qbV b d4 4 o4 (by omega);obtain⟨d6,n6,o6,h6,r6⟩:=qbV b d5 3 o5 (by omega);obtain⟨d7,n7,o7,h7,r7⟩:=qbV b d6 6 o6 (by omega);have i1:inInt .i64 (1+n1):=⟨by omega,by omega⟩
 have i2:inInt .i64 (1+n2):=⟨by omega,by omega⟩
 have i4:inInt .i64 (1+n4):=⟨by omega,by omega⟩
 have i6:inInt .i64 (1+n6):=⟨by omega,by omega⟩
 have fin:∀(k:Int) (v:Nat) {ds:List (List D)},(k=5∨k=6)→v≤4→FitR ds ((qbL k n4 n5 n6 v).map Node.e)→RetR prog 118 [.cur (c.e b) (d7.e b)] (.vals [.agg [.sl 4 ds,I (1+n1),I (1+n2)]])→
   ∃(d:Cur) (g:Graph),d.ok b∧Drawn g∧RetR prog 118 [.cur (c.e b) (d.e b)] (.vals [.agg g.e]):=by
  intro k v ds hk hv hf hr;exact⟨d7,⟨qbL k n4 n5 n6 v,1+n1,1+n2⟩,o7,⟨⟨k,n4,n5,n6,v,hk,h4,h5,h6,hv,rfl⟩,by dsimp only;omega,by dsimp only;omega⟩,
   hr.fit (.cons (.agg (.cons (.sl 4 hf) (FitE.refl _))) .nil)⟩
 have f1:∀d,Fit d d:=.refl;by_cases e0:n7=0
 ·cases x
  ·exact fin 5 0 (.inl rfl) (by omega) (by repeat (first | exact .refl _ | constructor)) (qwb _ _ _ _ _ _ _ _ _ _ _ _ _ _ _ _ _ _ _ _ _ _ _ _ _ _ _ _ ⟨r1,i1,r2,i2,r3,rfl,r4,i4,r5,r6,i6,r7,by simp[e0],by omega,by simp,rfl,trivial⟩)
  ·exact fin 6 0 (.inr rfl) (by omega) (by repeat (first | exact .refl _ | constructor)) (qv6 _ _ _ _ _ _ _ _ _ _ _ _ _ _ _ _ _ _ _ _ _ _ _ _ _ _ _ _ ⟨r1,i1,r2,i2,r3,rfl,r4,i4,r5,r6,i6,r7,by simp[e0],by omega,by simp,rfl,trivial⟩)
 by_cases e1:n7=1
 ·cases x
  ·exact fin 5 1 (.inl rfl) (by omega) (by repeat (first | exact .refl _ | constructor)) (qwc _ _ _ _ _ _ _ _ _ _ _ _ _ _ _ _ _ _ _ _ _ _ _ _ _ _ _ _ ⟨r1,i1,r2,i2,r3,rfl,r4,i4,r5,r6,i6,r7,by simp[e0],by simp[e1],by omega,by simp,rfl,trivial⟩)
  ·exact fin 6 1 (.inr rfl) (by omega) (by repeat (first | exact .refl _ | constructor)) (qv7 _ _ _ _ _ _ _ _ _ _ _ _ _ _ _ _ _ _ _ _ _ _ _ _ _ _ _ _ ⟨r1,i1,r2,i2,r3,rfl,r4,i4,r5,r6,i6,r7,by simp[e0],by simp[e1],by omega,by simp,rfl,trivial⟩)
 by_cases e2:n7=2
 ·cases x
  ·exact fin 5 2 (.inl rfl) (by omega) (by repeat (first | exact .refl _ | constructor)) (qwd _ _ _ _ _ _ _ _ _ _ _ _ _ _ _ _ _ _ _ _ _ _ _ _ _ _ _ _ ⟨r1,i1,r2,i2,r3,rfl,r4,i4,r5,r6,i6,r7,by simp[e0],by simp[e1],by simp[e2],by omega,by simp,rfl,trivial⟩)
  ·exact fin 6 2 (.inr rfl) (by omega) (by repeat (first | exact .refl _ | constructor)) (qv8 _ _ _ _ _ _ _ _ _ _ _ _ _ _ _ _ _ _ _ _ _ _ _ _ _ _ _ _ ⟨r1,i1,r2,i2,r3,rfl,r4,i4,r5,r6,i6,r7,by simp[e0],by simp[e1],by simp[e2],by omega,by simp,rfl,trivial⟩)
 by_cases e3:n7=3
 ·cases x
  ·exact fin 5 3 (.inl rfl) (by omega) (by repeat (first | exact .refl _ | constructor)) (qwe _ _ _ _ _ _ _ _ _ _ _ _ _ _ _ _ _ _ _ _ _ _ _ _ _ _ _ _ ⟨r1,i1,r2,i2,r3,rfl,r4,i4,r5,r6,i6,r7,by simp[e0],by simp[e1],by simp[e2],by simp[e3],by simp,by simp,by omega,by simp,rfl,trivial⟩)
  ·exact fin 6 3 (.inr rfl) (by omega) (by repeat (first | exact .refl _ | constructor)) (qv9 _ _ _ _ _ _ _ _ _ _ _ _ _ _ _ _ _ _ _ _ _ _ _ _ _ _ _ _ ⟨r1,i1,r2,i2,r3,rfl,r4,i4,r5,r6,i6,r7,by simp[e0],by simp[e1],by simp[e2],by simp[e3],by simp,by simp,by omega,by simp,rfl,trivial⟩)
 ·cases x
  ·exact fin 5 4 (.inl rfl) (by omega) (by repeat (first | exact .refl _ | constructor)) (qwf ⟨r1,i1,r2,i2,r3,rfl,r4,i4,r5,r6,i6,r7,by simp[e0],by simp[e1],by simp[e2],by simp[e3],trivial⟩)
  ·exact fin 6 4 (.inr rfl) (by omega) (by repeat (first | exact .refl _ | constructor)) (qwa ⟨r1,i1,r2,i2,r3,rfl,r4,i4,r5,r6,i6,r7,by simp[e0],by simp[e1],by simp[e2],by simp[e3],trivial⟩)
def qhB(p:Pick):Prop:=(1≤p.kind∧p.kind≤7)∧(0≤p.a∧p.a<3)∧(0≤p.b∧p.b<3)
theorem qDK(b:List Int)(c:Cur)(hc:c.ok b):∃(d:Cur) (p:Pick),d.ok b∧qhB p∧RetR prog 242 [.cur (c.e b) (d.e b)] (.vals [.agg p.e]):=by
 obtain⟨d1,k,o1,h1,r1⟩:=qwv b c [1,1,1,2,3,3,3,4,4,5,6,6,7] hc (by simp);obtain⟨d2,a,o2,h2,r2⟩:=qbV b d1 3 o1 (by omega);have hk:1≤k∧k≤7:=by
  simp only[zL,zbu,or_false]at h1;omega
 by_cases e4:k=4
 ·obtain⟨d3,m,o3,h3,r3⟩:=qbV b d2 2 o2 (by omega);have j1:inInt .i64 (a+1):=⟨by omega,by omega⟩
  have j2:inInt .i64 (a+1+m):=⟨by omega,by omega⟩
  exact⟨d3,⟨k,a,(a+1+m).tmod 3⟩,o3,⟨hk,h2,Int.tmod_nonneg _ (by omega),Int.tmod_lt_of_pos _ (by omega)⟩,qwk ⟨r1,r2,by simp[e4],qwj _ _ _ _ _ _ _ _ ⟨j1,r3,j2,by decide,trivial⟩,trivial⟩⟩
 by_cases e5:k=5
 ·obtain⟨d3,m,o3,h3,r3⟩:=qbV b d2 2 o2 (by omega);have j1:inInt .i64 (a+1):=⟨by omega,by omega⟩
  have j2:inInt .i64 (a+1+m):=⟨by omega,by omega⟩
  exact⟨d3,⟨k,a,(a+1+m).tmod 3⟩,o3,⟨hk,h2,Int.tmod_nonneg _ (by omega),Int.tmod_lt_of_pos _ (by omega)⟩,qwm ⟨r1,r2,by simp[e4],by simp[e5],qwl _ _ _ _ _ _ _ _ ⟨j1,r3,j2,by decide,trivial⟩,trivial⟩⟩
 ·exact⟨d2,⟨k,a,0⟩,o2,⟨hk,h2,by dsimp only;omega⟩,qwn ⟨r1,r2,by simp[e4],by simp[e5],trivial⟩⟩
theorem flatP(p:Pick):Flat [p.e]:=qat fun d hd=>by
 simp only[Pick.e,zL,zbu,or_false]at hd;rcases hd with rfl | rfl | rfl<;>exact⟨_,rfl⟩
theorem qq1(b:List Int)(m:Nat)(hm:m≤1000):∀(n i:Nat) (xs:List Pick) (c:Cur),i+n=m+1→c.ok b→xs.length≤i→(∀p∈xs,qhB p)→
  ∃(ys:List Pick) (d:Cur),d.ok b∧ys.length≤m+1∧(∀p∈ys,qhB p)∧qam prog (qaa f120 0) (qhp (b.map eU) m i (xs.map Pick.e) c.i c.h) (.exit 0) (qma (b.map eU) (ys.map Pick.e) d.i d.h)
 | n,i,xs,c,hin,hc,hl,hx=>by
  obtain⟨d1,k,o1,hk,r1⟩:=qbV b c ((m:Int)+1) hc (by omega);by_cases h:(i:Int)<k
  ·match n with
   | 0=>omega
   | n+1=>
    obtain⟨d2,p,o2,hp,r2⟩:=qDK b d1 o1;obtain⟨ys,d,o,y1,y2,l⟩:=qq1 b m hm n (i+1) (xs++[p]) d2 (by omega) o2 (by simp;omega) (fun z hz=>by
     rcases zaz.1 hz with hz | hz
     ·exact hx z hz
     ·rw[List.mem_singleton]at hz;subst hz;exact hp)
    refine⟨ys,d,o,y1,y2,.more ?_ l⟩;rw[zU];exact qwo ⟨⟨by omega,by omega⟩,r1,zap h,r2,by simp;omega,by simp;omega,flatP p,⟨by omega,by omega⟩,trivial⟩
  ·exact⟨xs,d1,o1,by omega,hx,.last (qaf 0) (qwp ⟨⟨by omega,by omega⟩,r1,zt h,trivial⟩)⟩
theorem qq2(b:List Int)(c:Cur)(m:Nat)(hm:m≤1000)(hc:c.ok b):∃(d:Cur) (ps:List Pick),d.ok b∧ps.length≤m+1∧(∀p∈ps,qhB p)∧RetR prog 120 [.cur (c.e b) (d.e b),.ro (.one (I m))] (.vals [.one (.sl 3 (ps.map Pick.e))]):=by
 obtain⟨ys,d,o,y1,y2,l⟩:=qq1 b m hm (m+1) 0 [] c (by omega) hc (by simp) (by simp);exact⟨d,ys,o,y1,y2,qwq ⟨l,trivial⟩⟩
end Go.Proofs.YtdkobdhckkjmeaaGreat
namespace Go.Proofs.YtdkobdhckkjmeaaGreat
open Go.Sx Go.RowKit Go.Proofs.Tryz
theorem qkb{α:Type}{f:α→Nat}{k:Nat}:∀{xs:List α},(∀x∈xs,f x≤k)→(xs.map f).sum≤xs.length*k
 | [],_=>by simp
 | a::xs,h=>by
  have h1:=h a (by simp);have h2:=qkb (f:=f) (k:=k) (xs:=xs) (fun x hx=>h x (by simp[hx]));simp only[zav,zcw,zq,zR,Nat.one_mul];omega
theorem qh8{g:Graph}{xs:List Record}:newOk g xs=true↔qaw g=true∧xs.length≤20∧xs.any qcn=false:=by
 simp only[newOk,zj,zi,zS,and_assoc]
theorem qsU{g:Graph}{xs:List Record}(h:newOk g xs=true):(qaI g xs).sz≤g.sz+1000:=by
 obtain⟨h1,h2,_⟩:=qh8.1 h;have hn:=qa7 h1;obtain⟨n,hnn⟩:∃n:Nat,g.workers=n:=⟨g.workers.toNat,by omega⟩
 have a:=qkb (f:=Worker.sz) (k:=92) (xs:=qco g xs n) (fun x hx=>by
  simp only[qco,zbm]at hx;obtain⟨w,_,rfl⟩:=hx;have:=qnn (g:=g) h2 (w:Nat);simp only[qcb,Worker.sz,zh,List.length_replicate];omega)
 have b:=qkb (f:=Link.sz) (k:=0) (xs:=List.replicate (n*n) (qbG g.cap)) (fun x hx=>by
  rw[List.eq_of_mem_replicate hx];simp[qbG,Link.sz])
 have hm:n*n≤4*4:=Nat.mul_le_mul (by omega) (by omega);simp only[qaI,Cluster.sz,szS,hnn,zae,List.length_replicate,zh,qgP]at a b ⊢;omega
theorem qsV(g:Graph)(xs:List Record):GotLe (qaI g xs):=by
 intro l hl;have:=List.eq_of_mem_replicate hl;subst this;simp[qbG]
end Go.Proofs.YtdkobdhckkjmeaaGreat
namespace Go.Proofs.YtdkobdhckkjmeaaGreat
open Go.Sx Go.RowKit Go.Proofs.Tryz
theorem Drawn.size{g:Graph}(h:Drawn g):g.sz≤100:=by
 obtain⟨⟨k,a,b,c,v,hk,ha,hb,hc,hv,hn⟩,hw,hcap⟩:=h;obtain⟨nodes,workers,cap⟩:=g;simp only at hn;subst hn;have e:(⟨qbL k a b c v,workers,cap⟩:Graph).sz=szS Node.sz (qbL k a b c v):=rfl;rw[e];have ev:v=0∨v=1∨v=2∨v=3∨v=4:=by omega
 rcases ev with rfl | rfl | rfl | rfl | rfl<;>simp[szS,qbL,qdt,Node.sz]
theorem Input.fine{r:Record}(h:Input r):qcn r=false:=by
 obtain⟨h1,h2,h3,h4,h5⟩:=h;have ok:qaB r=true:=by
  simp only[qaB,qbb,qaL,inR,zj,zi,h1,h2];omega
 simp[qcn,ok,h1,h2]
theorem qkc{g:Graph}{xs:List Record}(hg:Drawn g)(hl:xs.length≤6)(hx:∀r∈xs,Input r):newOk g xs=true:=
 qh8.2 ⟨hg.ok,by omega,zP.2 fun r hr=>by simp[(hx r hr).fine]⟩
end Go.Proofs.YtdkobdhckkjmeaaGreat
namespace Go.Proofs.YtdkobdhckkjmeaaGreat
open Go.Sx Go.RowKit Go.Proofs.Tryz
def Fair(r:Record):Prop:=(0≤r.op∧r.op<5)∧(0≤r.stamp.epoch∧r.stamp.epoch<4)∧(0≤r.stamp.turn∧r.stamp.turn<5)∧(0≤r.key∧r.key<12)∧(0≤r.val∧r.val<40)
theorem in64{n:Int}(h1:-9223372036854775808≤n)(h2:n≤9223372036854775807):inInt .i64 n:=⟨h1,h2⟩
theorem Fair.wf{r:Record}(h:Fair r):r.wf:=by
 obtain⟨h1,h2,h3,h4,h5⟩:=h;exact⟨in64 (by omega) (by omega),⟨in64 (by omega) (by omega),in64 (by omega) (by omega)⟩,in64 (by omega) (by omega),in64 (by omega) (by omega)⟩
theorem spec_l02Stamp_ret(b:List Int)(c:Cur)(hc:c.ok b):∃(d:Cur) (s:Stamp),d.ok b∧((0≤s.epoch∧s.epoch<4)∧(0≤s.turn∧s.turn<5))∧RetR prog 320 [.cur (c.e b) (d.e b)] (.vals [.agg s.e]):=by
 obtain⟨d1,x,o1,h1,r1⟩:=qbV b c 4 hc (by omega);obtain⟨d2,y,o2,h2,r2⟩:=qbV b d1 5 o1 (by omega);exact⟨d2,⟨x,y⟩,o2,⟨h1,h2⟩,spec_l02Stamp_p0 ⟨r1,r2,trivial⟩⟩
theorem pick_in{n:Int}{xs:List Int}(h:n∈xs)(hx:(xs.all fun x=>decide (-9223372036854775808≤x)&&decide (x≤9223372036854775807))=true):inInt .i64 n:=by
 have:=zM.1 hx n h;simp only[zj,zi]at this;exact this
theorem spec_l02Any_ret(b:List Int)(c:Cur)(hc:c.ok b):∃(d:Cur) (s:Stamp),d.ok b∧s.wf∧RetR prog 276 [.cur (c.e b) (d.e b)] (.vals [.agg s.e]):=by
 obtain⟨d1,s,o1,⟨h1,h2⟩,r1⟩:=spec_l02Stamp_ret b c hc;obtain⟨d2,k,o2,h3,r2⟩:=qbV b d1 10 o1 (by omega);have w1:inInt .i64 s.epoch:=in64 (by omega) (by omega);have w2:inInt .i64 s.turn:=in64 (by omega) (by omega);by_cases e0:k=0
 ·obtain⟨d3,x,o3,h4,r3⟩:=qwv b d2 [-1,3,4,9223372036854775807] o2 (by simp);exact⟨d3,⟨x,s.turn⟩,o3,⟨pick_in h4 (by decide),w2⟩,spec_l02Any_p0 ⟨r1,r2,by simp[e0],r3,trivial⟩⟩
 by_cases e1:k=1
 ·obtain⟨d3,x,o3,h4,r3⟩:=qwv b d2 [-1,5,6,7,-9223372036854775808] o2 (by simp);exact⟨d3,⟨s.epoch,x⟩,o3,⟨w1,pick_in h4 (by decide)⟩,spec_l02Any_p1 ⟨r1,r2,by simp[e0],by simp[e1],r3,trivial⟩⟩
 ·exact⟨d2,s,o2,⟨w1,w2⟩,spec_l02Any_p2 ⟨r1,r2,by simp[e0],by simp[e1],trivial⟩⟩
theorem spec_l05Record_ret(b:List Int)(c:Cur)(hc:c.ok b):∃(d:Cur) (r:Record),d.ok b∧Fair r∧RetR prog 275 [.cur (c.e b) (d.e b)] (.vals [.agg r.e]):=by
 obtain⟨d1,x,o1,h1,r1⟩:=qbV b c 5 hc (by omega);obtain⟨d2,s,o2,⟨h2,h3⟩,r2⟩:=spec_l02Stamp_ret b d1 o1;obtain⟨d3,k,o3,h4,r3⟩:=qbV b d2 12 o2 (by omega);obtain⟨d4,v,o4,h5,r4⟩:=qbV b d3 40 o3 (by omega);exact⟨d4,⟨x,s,k,v⟩,o4,⟨h1,h2,h3,h4,h5⟩,spec_l05Record_p0 ⟨r1,r2,r3,r4,trivial⟩⟩
theorem spec_l05Any_ret(b:List Int)(c:Cur)(hc:c.ok b):∃(d:Cur) (r:Record),d.ok b∧r.wf∧RetR prog 170 [.cur (c.e b) (d.e b)] (.vals [.agg r.e]):=by
 obtain⟨d1,r,o1,hr,r1⟩:=spec_l05Record_ret b c hc;obtain⟨w1,w2,w3,w4⟩:=hr.wf;obtain⟨d2,k,o2,h3,r2⟩:=qbV b d1 12 o1 (by omega);by_cases e0:k=0
 ·obtain⟨d3,x,o3,h4,r3⟩:=qwv b d2 [-1,7,8] o2 (by simp);exact⟨d3,⟨x,r.stamp,r.key,r.val⟩,o3,⟨pick_in h4 (by decide),w2,w3,w4⟩,spec_l05Any_p0 ⟨r1,r2,by simp[e0],r3,trivial⟩⟩
 by_cases e1:k=1
 ·obtain⟨d3,s,o3,h4,r3⟩:=spec_l02Any_ret b d2 o2;exact⟨d3,⟨r.op,s,r.key,r.val⟩,o3,⟨w1,h4,w3,w4⟩,spec_l05Any_p1 ⟨r1,r2,by simp[e0],by simp[e1],r3,trivial⟩⟩
 by_cases e2:k=2
 ·obtain⟨d3,x,o3,h4,r3⟩:=qwv b d2 [-1,99,100,-9223372036854775808] o2 (by simp);exact⟨d3,⟨r.op,r.stamp,x,r.val⟩,o3,⟨w1,w2,pick_in h4 (by decide),w4⟩,spec_l05Any_p2 ⟨r1,r2,by simp[e0],by simp[e1],by simp[e2],r3,trivial⟩⟩
 by_cases e3:k=3
 ·obtain⟨d3,x,o3,h4,r3⟩:=qwv b d2 [-1,999,1000,9223372036854775807] o2 (by simp);exact⟨d3,⟨r.op,r.stamp,r.key,x⟩,o3,⟨w1,w2,w3,pick_in h4 (by decide)⟩,spec_l05Any_p3 ⟨r1,r2,by simp[e0],by simp[e1],by simp[e2],by simp[e3],r3,trivial⟩⟩
 ·exact⟨d2,r,o2,hr.wf,spec_l05Any_p4 ⟨r1,r2,by simp[e0],by simp[e1],by simp[e2],by simp[e3],trivial⟩⟩
theorem flatR(r:Record):Flat [r.e]:=qat fun d hd=>by
 simp only[Record.e,zL,zbu,or_false]at hd;rcases hd with rfl | rfl | rfl | rfl | rfl<;>exact⟨_,rfl⟩
