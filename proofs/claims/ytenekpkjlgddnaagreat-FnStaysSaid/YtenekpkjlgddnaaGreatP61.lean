/- The drawers' cursor: whatever is drawn, there is a cursor behind it and a number in range. -/
import Derived.Test.YtenekpkjlgddnaaGreatB0
import Derived.Test.YtenekpkjlgddnaaGreatT5
import Derived.Test.YtenekpkjlgddnaaGreatR35
import Derived.Test.YtenekpkjlgddnaaGreatGD
import Derived.Test.YtenekpkjlgddnaaGreatC0
set_option linter.unusedVariables false
set_option linter.unusedSimpArgs false
namespace Go.Proofs.YtenekpkjlgddnaaGreat
open Go.Sx Go.RowKit Go.Proofs.Tryz
def eU(n:Int):List D:=[.v (.int .u8 n)]
structure Cur where
 i:Int
 h:Int
def Cur.e(b:List Int)(c:Cur):List D:=[.sl 1 (b.map eU),I c.i,I c.h]
def Bytes(b:List Int):Prop:=b.length≤8388608∧∀x∈b,0≤x∧x≤255
def Cur.ok(b:List Int)(c:Cur):Prop:=Bytes b∧0≤c.i∧c.i≤b.length
theorem u8_of{P:Program}{t:TypeId}{ds:List D}(hu:P.underlying t=some (.int .u8))(h:ShD P t ds):∃n,ds=eU n∧0≤n∧n≤255:=by
 have h2:∃n,ds=[.v (.int .u8 n)]∧(Lit.int .u8 n).wf=true:=by cases h<;>simp_all
 obtain⟨n,e,hw⟩:=h2
 refine⟨n,e,?_⟩
 simp[Lit.wf]at hw
 have h3:IntKind.u8.min=0:=rfl
 rw[h3]at hw
 exact hw
theorem qn7:prog.cellsOf 5=1:=by kernel_rfl
theorem qn8{ds:List D}(h:ShD prog 22 ds):∃xs:List Int,ds=[.sl 1 (xs.map eU)]∧(xs.length:Int)≤9223372036854775807∧∀a∈xs,(fun n=>0≤n∧n≤255) a:=
 qnm eU (fun n=>0≤n∧n≤255) Tryz.underlying22 qn7 (fun ds h=>u8_of Tryz.underlying5 h) h
theorem qn9{ad:AD}(h:ShA prog 22 ad):∃xs:List Int,ad=.one (.sl 1 (xs.map eU))∧(xs.length:Int)≤9223372036854775807∧∀a∈xs,(fun n=>0≤n∧n≤255) a:=by
 cases ad with
 | agg ds=>have:=h.2;simp[aggT,Tryz.underlying22]at this
 | one d=>
  obtain⟨x,e,hx⟩:=qn8 h.1
  obtain rfl:=(zG e).1
  exact⟨x,rfl,hx⟩
theorem qkp{P:Program}(a:Int)(n:Nat):∃m:Int,∀t x y,qa0 P .shr t x y (.int .i64 a) (.int .u64 (n:Int)) (.int .i64 m):=⟨_,fun _ _ _=>qnt _ _ _ _⟩
theorem qoa{P:Program}(a b:Int):∃m:Int,∀t x y,qa0 P .xor t x y (.int .i64 a) (.int .i64 b) (.int .i64 m):=⟨_,fun _ _ _=>qnu _ _ _⟩
theorem qhM{P:Program}(a:Int)(k:Nat)(hk:k<2 ^ 62):∃m:Int,(0≤m∧m≤k)∧∀t x y,qa0 P .and t x y (.int .i64 a) (.int .i64 (k:Int)) (.int .i64 m):=⟨_,qnw a k hk,fun _ _ _=>qnv _ _ _⟩
theorem qkq(b:List Int)(hb:Bytes b):∀(n i:Nat) (h:Int),i+n=b.length→0≤h∧h≤1073741823→∃h',qai prog (qab f8 0) (qd9 (b.map eU) i h) (.exit 0) (qfV (b.map eU) h')
 | 0,i,h,hi,hh=>⟨h,.last (qaj 0) (qnD ⟨by rw[zf,zb];omega,trivial⟩)⟩
 | n+1,i,h,hi,hh=>by
  have hl:=hb.1
  obtain⟨x,hx⟩:=qah (xs:=b) (i:=i) (by omega)
  have hb:=hb.2 x (qaq hx)
  by_cases h4:(i:Int)<4000
  ·obtain⟨m,hm,r⟩:=qhM (P:=prog) (h*131+x+7) 1073741823 (by decide)
   obtain⟨h',l⟩:=qkq b ‹Bytes b› n (i+1) m (by omega) hm
   exact⟨h',.more (qnB ⟨lt1 (by omega),zap h4,⟨by omega,by omega⟩,lt0,lt2 (by omega),qad eU hx,⟨by omega,by omega⟩,⟨by omega,by omega⟩,⟨by omega,by omega⟩,r _ _ _,⟨by omega,by omega⟩,trivial⟩) l⟩
  ·exact⟨h,.last (qaj 0) (qnC ⟨lt1 (by omega),zt h4,trivial⟩)⟩
theorem qob(b:List Int)(hb:Bytes b):∃c:Cur,c.ok b∧RetR prog 8 [.ro (.one (.sl 1 (b.map eU)))] (.newp [some 0,none,none] (c.e b)):=by
 have hl:=hb.1
 obtain⟨h',l⟩:=qkq b hb b.length 0 (94701+(↑(b.map eU).length:Int)) (by omega) ⟨by omega,by simp;omega⟩
 exact⟨⟨0,h'⟩,⟨hb,by dsimp only;omega,by dsimp only;omega⟩,qnE ⟨⟨by omega,by simp;omega⟩,l,trivial⟩⟩
theorem qfW(b:List Int)(c:Cur)(hc:c.ok b):∃(d:Cur) (n:Int),d.ok b∧(0≤n∧n≤255)∧RetR prog 57 [.cur (c.e b) (d.e b)] (.vals [.one (I n)]):=by
 obtain⟨⟨h1,h2⟩,h3,h4⟩:=hc
 obtain⟨n3,r3⟩:=qkp (P:=prog) (IntKind.i64.wrap (IntKind.i64.wrap (c.h*6364136223846793005)+1442695040888963407)) 33
 obtain⟨n4,r4⟩:=qkp (P:=prog) (IntKind.i64.wrap (IntKind.i64.wrap (c.h*6364136223846793005)+1442695040888963407)) 45
 obtain⟨n5,r5⟩:=qoa (P:=prog) n3 n4
 obtain⟨n6,m6,r6⟩:=qhM (P:=prog) n5 255 (by decide)
 by_cases hi:c.i<b.length
 ·obtain⟨x,hx⟩:=qah (xs:=b) (i:=c.i.toNat) (by omega)
  have hb:=h2 x (qaq hx)
  obtain⟨n8,m8,r8⟩:=qhM (P:=prog) (IntKind.i64.wrap (n6+IntKind.i64.wrap x)) 255 (by decide)
  exact⟨⟨c.i+1,IntKind.i64.wrap (IntKind.i64.wrap (c.h*6364136223846793005)+1442695040888963407)⟩,n8,⟨⟨h1,h2⟩,by dsimp only;omega,by dsimp only;omega⟩,m8,qnF ⟨r3 _ _ _,r4 _ _ _,r5 _ _ _,r6 _ _ _,by rw[zi,zb];exact hi,h3,by rw[zb];exact hi,by rw[zr,hx];rfl,r8 _ _ _,⟨by omega,by omega⟩,trivial⟩⟩
 ·exact⟨⟨c.i,IntKind.i64.wrap (IntKind.i64.wrap (c.h*6364136223846793005)+1442695040888963407)⟩,n6,⟨⟨h1,h2⟩,h3,h4⟩,m6,qnG ⟨r3 _ _ _,r4 _ _ _,r5 _ _ _,r6 _ _ _,by rw[zf,zb];exact hi,trivial⟩⟩
theorem qbi(b:List Int)(c:Cur)(k:Int)(hc:c.ok b)(hk:1≤k∧k≤1000000):∃(d:Cur) (n:Int),d.ok b∧(0≤n∧n<k)∧RetR prog 26 [.cur (c.e b) (d.e b),.ro (.one (I k))] (.vals [.one (I n)]):=by
 have md:∀m:Int,0≤m→0≤m.tmod k∧m.tmod k<k:=fun m hm=>⟨Int.tmod_nonneg _ hm,Int.tmod_lt_of_pos m (by omega)⟩
 obtain⟨d1,n1,o1,b1,r1⟩:=qfW b c hc
 by_cases h:k≤256
 ·exact⟨d1,_,o1,md n1 b1.1,qnH ⟨zt (by omega),zap h,r1,by omega,trivial⟩⟩
 ·obtain⟨d2,n2,o2,b2,r2⟩:=qfW b d1 o1
  obtain⟨d3,n3,o3,b3,r3⟩:=qfW b d2 o2
  obtain⟨d4,n4,o4,b4,r4⟩:=qfW b d3 o3
  exact⟨d4,_,o4,md _ (by omega),qnI ⟨zt (by omega),zt h,r1,r2,r3,r4,⟨by omega,by omega⟩,⟨by omega,by omega⟩,⟨by omega,by omega⟩,⟨by omega,by omega⟩,⟨by omega,by omega⟩,⟨by omega,by omega⟩,by omega,trivial⟩⟩
theorem qoc(b:List Int)(c:Cur)(k:Int)(hc:c.ok b)(hk:1≤k∧k≤1000000):∃(d:Cur) (x:Bool),d.ok b∧RetR prog 27 [.cur (c.e b) (d.e b),.ro (.one (I k))] (.vals [.one (B x)]):=by
 obtain⟨d,n,o,_,r⟩:=qbi b c k hc hk
 exact⟨d,_,o,qnJ ⟨r,trivial⟩⟩
theorem qod(b:List Int)(c:Cur)(xs:List Int)(hc:c.ok b)(hk:1≤xs.length∧xs.length≤1000):∃(d:Cur) (n:Int),d.ok b∧n∈xs∧RetR prog 58 [.cur (c.e b) (d.e b),.ro (.one (.sl 1 (xs.map eI)))] (.vals [.one (I n)]):=by
 obtain⟨d,n,o,hb,r⟩:=qbi b c (xs.length:Int) hc (by omega)
 obtain⟨x,hx⟩:=qah (xs:=xs) (i:=n.toNat) (by omega)
 refine⟨d,x,o,qaq hx,qnK ⟨?_,hb.1,by rw[zb];exact hb.2,by rw[zr,hx];rfl,trivial⟩⟩
 rw[zb]
 exact r
end Go.Proofs.YtenekpkjlgddnaaGreat
namespace Go.Proofs.YtenekpkjlgddnaaGreat
open Go.Sx Go.RowKit Go.Proofs.Tryz
def Input(r:Record):Prop:=r.op=0∧r.stamp.turn=0∧(0≤r.stamp.epoch∧r.stamp.epoch≤2)∧(0≤r.key∧r.key<12)∧(0≤r.val∧r.val<40)
theorem qkB(b:List Int):∀(n i:Nat) (e:Int) (xs:List Record) (c:Cur),i+n=6→c.ok b→(0≤e∧e≤2)→xs.length≤i→(∀r∈xs,Input r)→
  ∃(ys:List Record) (d:Cur),d.ok b∧ys.length≤6∧(∀r∈ys,Input r)∧qai prog (qab f10 0) (qeN (b.map eU) i e (xs.map Record.e) c.i c.h) (.exit 0) (qhI (b.map eU) (ys.map Record.e) d.i d.h)
 | n,i,e,xs,c,hin,hc,he,hl,hx=>by
  obtain⟨d1,m,o1,hb,r1⟩:=qbi b c 6 hc (by omega)
  by_cases h:(i:Int)<m
  ·match n with
   | 0=>omega
   | n+1=>
    obtain⟨d2,a,o2,ha,r2⟩:=qbi b d1 2 o1 (by omega)
    obtain⟨d3,k,o3,hk,r3⟩:=qbi b d2 12 o2 (by omega)
    obtain⟨d4,v,o4,hv,r4⟩:=qbi b d3 40 o3 (by omega)
    have br:=qkx (e+a) 0 2
    have hbr:0≤qcC (e+a) 0 2∧qcC (e+a) 0 2≤2:=by
     unfold qcC
     simp only[show ¬(2:Int)<0 by omega,zci]
     split<;>(try split)<;>omega
    obtain⟨ys,d,o,y1,y2,l⟩:=qkB b n (i+1) (qcC (e+a) 0 2) (xs++[⟨0,⟨qcC (e+a) 0 2,0⟩,k,v⟩]) d4 (by omega) o4 hbr (by simp;omega) (fun r hr=>by
     rcases zaz.1 hr with hr | hr
     ·exact hx r hr
     ·rw[List.mem_singleton]at hr
      subst hr
      exact⟨rfl,rfl,hbr,hk,hv⟩)
    refine⟨ys,d,o,y1,y2,.more ?_ l⟩
    rw[zU]
    exact qnV ⟨r1,zap h,r2,⟨by omega,by omega⟩,br,r3,r4,by simp;omega,by simp;omega,qbA (fun d hd=>by simp only[zL,zbu,or_false]at hd;rcases hd with rfl | rfl | rfl | rfl | rfl<;>exact⟨_,rfl⟩),⟨by omega,by omega⟩,trivial⟩
  ·exact⟨xs,d1,o1,by omega,hx,.last (qaj 0) (qnW ⟨r1,zt h,trivial⟩)⟩
theorem qo1(b:List Int)(c:Cur)(hc:c.ok b):∃(d:Cur) (xs:List Record),d.ok b∧xs.length≤6∧(∀r∈xs,Input r)∧RetR prog 10 [.cur (c.e b) (d.e b)] (.vals [.one (.sl 5 (xs.map Record.e))]):=by
 obtain⟨ys,d,o,y1,y2,l⟩:=qkB b 6 0 0 [] c rfl hc (by omega) (by simp) (by simp)
 exact⟨d,ys,o,y1,y2,qnX ⟨l,trivial⟩⟩
end Go.Proofs.YtenekpkjlgddnaaGreat
