/- The drawers' cursor: whatever is drawn, there is a cursor behind it and a number in range. -/
import Derived.Test.YtenekpkjlgddnaaB0
import Derived.Test.YtenekpkjlgddnaaT5
import Derived.Test.YtenekpkjlgddnaaR35
import Derived.Test.YtenekpkjlgddnaaGD
set_option linter.unusedVariables false
set_option linter.unusedSimpArgs false
namespace Go.Proofs.Ytenekpkjlgddnaa
open Go.Sx Go.RowKit Go.Proofs.Try
def eU(n:Int):List D:=[.v (.int .u8 n)]
structure Cur where
 i:Int
 h:Int
def Cur.e(b:List Int)(c:Cur):List D:=[.sl 1 (b.map eU),I c.i,I c.h]
def Bytes(b:List Int):Prop:=b.length≤8388608∧∀x∈b,0≤x∧x≤255
def Cur.ok(b:List Int)(c:Cur):Prop:=Bytes b∧0≤c.i∧c.i≤b.length
theorem u8_of{P:Program}{t:TypeId}{ds:List D}(hu:P.underlying t=some (.int .u8))(h:ShD P t ds):∃n,ds=eU n∧0≤n∧n≤255:=by
 have h2:∃n,ds=[.v (.int .u8 n)]∧(Lit.int .u8 n).wf=true:=by cases h<;>simp_all
 obtain⟨n,e,hw⟩:=h2
 refine⟨n,e,?_⟩
 simp[Lit.wf]at hw
 have h3:IntKind.u8.min=0:=rfl
 rw[h3]at hw
 exact hw
theorem qo2:prog.cellsOf 5=1:=by kernel_rfl
theorem qo3{ds:List D}(h:ShD prog 38 ds):∃xs:List Int,ds=[.sl 1 (xs.map eU)]∧(xs.length:Int)≤9223372036854775807∧∀a∈xs,(fun n=>0≤n∧n≤255) a:=
 qj8 eU (fun n=>0≤n∧n≤255) Try.underlying38 qo2 (fun ds h=>u8_of Try.underlying5 h) h
theorem qo4{ad:AD}(h:ShA prog 38 ad):∃xs:List Int,ad=.one (.sl 1 (xs.map eU))∧(xs.length:Int)≤9223372036854775807∧∀a∈xs,(fun n=>0≤n∧n≤255) a:=by
 cases ad with
 | agg ds=>have:=h.2;simp[aggT,Try.underlying38]at this
 | one d=>
  obtain⟨x,e,hx⟩:=qo3 h.1
  obtain rfl:=(zG e).1
  exact⟨x,rfl,hx⟩
theorem qiR{P:Program}(a:Int)(n:Nat):∃m:Int,∀t x y,qaH P .shr t x y (.int .i64 a) (.int .u64 (n:Int)) (.int .i64 m):=⟨_,fun _ _ _=>qoN _ _ _ _⟩
theorem qo5{P:Program}(a b:Int):∃m:Int,∀t x y,qaH P .xor t x y (.int .i64 a) (.int .i64 b) (.int .i64 m):=⟨_,fun _ _ _=>qoO _ _ _⟩
theorem qga{P:Program}(a:Int)(k:Nat)(hk:k<2 ^ 62):∃m:Int,(0≤m∧m≤k)∧∀t x y,qaH P .and t x y (.int .i64 a) (.int .i64 (k:Int)) (.int .i64 m):=⟨_,qoQ a k hk,fun _ _ _=>qoP _ _ _⟩
theorem qiS(b:List Int)(hb:Bytes b):∀(n i:Nat) (h:Int),i+n=b.length→0≤h∧h≤1073741823→∃h',qam prog (qab f30 0) (qc0 (b.map eU) i h) (.exit 0) (qes (b.map eU) h')
 | 0,i,h,hi,hh=>⟨h,.last (qaF 0) (qoT ⟨by rw[zf,zb];omega,trivial⟩)⟩
 | n+1,i,h,hi,hh=>by
  have hl:=hb.1
  obtain⟨x,hx⟩:=qag (xs:=b) (i:=i) (by omega)
  have hb:=hb.2 x (qbD hx)
  by_cases h4:(i:Int)<4000
  ·obtain⟨m,hm,r⟩:=qga (P:=prog) (h*131+x+7) 1073741823 (by decide)
   obtain⟨h',l⟩:=qiS b ‹Bytes b› n (i+1) m (by omega) hm
   exact⟨h',.more (qoR ⟨lt1 (by omega),zap h4,⟨by omega,by omega⟩,lt0,lt2 (by omega),qaB eU hx,⟨by omega,by omega⟩,⟨by omega,by omega⟩,⟨by omega,by omega⟩,r _ _ _,⟨by omega,by omega⟩,trivial⟩) l⟩
  ·exact⟨h,.last (qaF 0) (qoS ⟨lt1 (by omega),zt h4,trivial⟩)⟩
theorem qo6(b:List Int)(hb:Bytes b):∃c:Cur,c.ok b∧RetR prog 30 [.ro (.one (.sl 1 (b.map eU)))] (.newp [some 0,none,none] (c.e b)):=by
 have hl:=hb.1
 obtain⟨h',l⟩:=qiS b hb b.length 0 (94701+(↑(b.map eU).length:Int)) (by omega) ⟨by omega,by simp;omega⟩
 exact⟨⟨0,h'⟩,⟨hb,by dsimp only;omega,by dsimp only;omega⟩,qoU ⟨⟨by omega,by simp;omega⟩,l,trivial⟩⟩
theorem qet(b:List Int)(c:Cur)(hc:c.ok b):∃(d:Cur) (n:Int),d.ok b∧(0≤n∧n≤255)∧RetR prog 57 [.cur (c.e b) (d.e b)] (.vals [.one (I n)]):=by
 obtain⟨⟨h1,h2⟩,h3,h4⟩:=hc
 obtain⟨n3,r3⟩:=qiR (P:=prog) (IntKind.i64.wrap (IntKind.i64.wrap (c.h*6364136223846793005)+1442695040888963407)) 33
 obtain⟨n4,r4⟩:=qiR (P:=prog) (IntKind.i64.wrap (IntKind.i64.wrap (c.h*6364136223846793005)+1442695040888963407)) 45
 obtain⟨n5,r5⟩:=qo5 (P:=prog) n3 n4
 obtain⟨n6,m6,r6⟩:=qga (P:=prog) n5 255 (by decide)
 by_cases hi:c.i<b.length
 ·obtain⟨x,hx⟩:=qag (xs:=b) (i:=c.i.toNat) (by omega)
  have hb:=h2 x (qbD hx)
  obtain⟨n8,m8,r8⟩:=qga (P:=prog) (IntKind.i64.wrap (n6+IntKind.i64.wrap x)) 255 (by decide)
  exact⟨⟨c.i+1,IntKind.i64.wrap (IntKind.i64.wrap (c.h*6364136223846793005)+1442695040888963407)⟩,n8,⟨⟨h1,h2⟩,by dsimp only;omega,by dsimp only;omega⟩,m8,qoV ⟨r3 _ _ _,r4 _ _ _,r5 _ _ _,r6 _ _ _,by rw[zi,zb];exact hi,h3,by rw[zb];exact hi,by rw[zr,hx];rfl,r8 _ _ _,⟨by omega,by omega⟩,trivial⟩⟩
 ·exact⟨⟨c.i,IntKind.i64.wrap (IntKind.i64.wrap (c.h*6364136223846793005)+1442695040888963407)⟩,n6,⟨⟨h1,h2⟩,h3,h4⟩,m6,qoW ⟨r3 _ _ _,r4 _ _ _,r5 _ _ _,r6 _ _ _,by rw[zf,zb];exact hi,trivial⟩⟩
theorem qo7(b:List Int)(c:Cur)(k:Int)(hc:c.ok b)(hk:1≤k∧k≤1000000):∃(d:Cur) (n:Int),d.ok b∧(0≤n∧n<k)∧RetR prog 33 [.cur (c.e b) (d.e b),.ro (.one (I k))] (.vals [.one (I n)]):=by
 have md:∀m:Int,0≤m→0≤m.tmod k∧m.tmod k<k:=fun m hm=>⟨Int.tmod_nonneg _ hm,Int.tmod_lt_of_pos m (by omega)⟩
 obtain⟨d1,n1,o1,b1,r1⟩:=qet b c hc
 by_cases h:k≤256
 ·exact⟨d1,_,o1,md n1 b1.1,qoX ⟨zt (by omega),zap h,r1,by omega,trivial⟩⟩
 ·obtain⟨d2,n2,o2,b2,r2⟩:=qet b d1 o1
  obtain⟨d3,n3,o3,b3,r3⟩:=qet b d2 o2
  obtain⟨d4,n4,o4,b4,r4⟩:=qet b d3 o3
  exact⟨d4,_,o4,md _ (by omega),qoY ⟨zt (by omega),zt h,r1,r2,r3,r4,⟨by omega,by omega⟩,⟨by omega,by omega⟩,⟨by omega,by omega⟩,⟨by omega,by omega⟩,⟨by omega,by omega⟩,⟨by omega,by omega⟩,by omega,trivial⟩⟩
theorem qiT(b:List Int):∀(n i:Nat) (xs:List Int) (c:Cur),i+n=12→c.ok b→xs.length=i→(∀x∈xs,0≤x∧x<10000)→
  ∃ys:List Int,ys.length=12∧(∀x∈ys,0≤x∧x<10000)∧qam prog (qab f19 0) (qds i (xs.map eI) (b.map eU) c.i c.h) (.exit 0) (qf9 (ys.map eI))
 | 0,i,xs,c,hi,hc,hl,hx=>⟨xs,by omega,hx,.last (qaF 0) (qo0 ⟨zt (by omega),trivial⟩)⟩
 | n+1,i,xs,c,hi,hc,hl,hx=>by
  obtain⟨d,k,o,hk,r⟩:=qo7 b c 10000 hc (by omega)
  obtain⟨ys,y1,y2,l⟩:=qiT b n (i+1) (xs++[k]) d (by omega) o (by simp[hl]) (fun x h=>by
   rcases zaz.1 h with h | h
   ·exact hx x h
   ·rw[List.mem_singleton]at h;subst h;exact hk)
  refine⟨ys,y1,y2,.more ?_ l⟩
  rw[zU]
  exact qoZ ⟨zap (by omega),r,by simp;omega,by simp;omega,qdn (fun d hd=>by simp only[zL,zbu,or_false]at hd;exact⟨_,hd⟩),⟨by omega,by omega⟩,trivial⟩
theorem qo8(b:List Int)(hb:Bytes b):∃ys:List Int,ys.length=12∧(∀x∈ys,0≤x∧x<10000)∧Rt 19 [.one (.sl 1 (b.map eU))] [.one (.sl 1 (ys.map eI))]:=by
 obtain⟨c,hc,r⟩:=qo6 b hb
 obtain⟨ys,y1,y2,l⟩:=qiT b 12 0 [] c rfl hc rfl (by simp)
 exact⟨ys,y1,y2,qo1 ⟨r,l,trivial⟩⟩
end Go.Proofs.Ytenekpkjlgddnaa
