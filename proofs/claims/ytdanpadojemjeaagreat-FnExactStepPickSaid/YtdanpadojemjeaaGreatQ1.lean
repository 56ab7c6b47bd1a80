/- slices.Delete at records: the elements but those from i to j, in the memory that was handed over. -/
import Derived.Test.YtdanpadojemjeaaGreatR30
import Derived.Test.YtdanpadojemjeaaGreatT1
import Derived.Test.YtdanpadojemjeaaGreatRows
import Derived.WalkKit
import Derived.Deep.RegionLaw
import Derived.Shelf.RegionOpenPlain
import Derived.Lib.SliceRun
import Derived.Deep.LoopGhost
import Derived.Lib.Walk
set_option linter.unusedVariables false
set_option linter.unusedSimpArgs false
namespace Go.Proofs.YtdanpadojemjeaaGreat
open Go.Sx Go.RowKit Go.Shelf Go.Lib Go.Proofs.Tryz
theorem qIX{P:Program}{ops:Array Oper}{o:Oper}{a:Act}{w:World}{K:Act→World→Prop}{Q:Exit→Act→World→Prop}{E:Prop}
  (hg:o.guard=none) (x y:Operand) (tx ty:TypeId) (hop:o.op=Op.call { callee:=Callee.builtin Builtin.append,args:=#[x,y],argTypes:=#[tx,ty] })
  (v u:Value) (hx:a.eval x=v) (hy:a.eval y=u) {v':Value} {w':World} (hr:(Builtin.append_ #[tx,ty] o.type #[v,u]).run P w=.ok v' w') (hK:K (a.put o.dst v') w'):
  if Region.wanted o (yielded ops a.tmps)=true then Oper.wp P o a w K Q else E:=by
 have hw:Region.wanted o (yielded ops a.tmps)=true:=by simp[Region.wanted,hg]
 rw[zq hw]
 unfold Oper.wp
 simp[execOp,hop,resolve,invoke,builtin,hx,hy,hr,Result.andThen]
 exact hK
theorem qpy{arr:Array Value}{p m j:Nat}{v:Value}(h:((arr.toList.drop p).take m)[j]?=some v):arr[p+j]?=some v∧j<m:=by
 rw[zE]at h
 split at h
 ·rw[zA,zH]at h
  exact⟨h,‹_›⟩
 ·cases h
theorem qIY{w:World}{b:Nat}{arr:Array Value}{tb:TypeId}(hb:w.heap[b]?=some (.cells arr tb (0,0))){x:Nat}{v:Value}(h:arr[x]?=some v):w.cell? ⟨b,x,none⟩=some v:=by
 simp[World.cell?,hb,h]
set_option maxHeartbeats 4000000 in
set_option maxRecDepth 1000000 in
theorem qIZ(b off n cap i j:Nat)(arr:Array Value)(tb:TypeId)(w:World)(hb:w.heap[b]?=some (.cells arr tb (0,0)))(hn:n≤cap)(hfit:off+cap*3≤arr.size)(hij:i<j)(hj:j≤n)
  (h1:∀x v,off≤x→x<off+n*3→arr[x]?=some v→v.oneCell'=true):
  Calls prog 65 #[.slice (some ⟨b,off,none⟩) n cap,.int .i64 i,.int .i64 j] w fun e w'=>e=.returned (.slice (some ⟨b,off,none⟩) (i+(n-j)) cap)∧
   ∃zs:List Value,zs.length=(n-(i+(n-j)))*3∧w'=(w.drew.setRow b (laid arr (off+i*3) ((arr.toList.drop (off+j*3)).take ((n-j)*3)))).setRow b (laid (laid arr (off+i*3) ((arr.toList.drop (off+j*3)).take ((n-j)*3))) (off+(i+(n-j))*3) zs):=by
 obtain⟨news,hnews⟩:∃news,news=(arr.toList.drop (off+j*3)).take ((n-j)*3):=⟨_,rfl⟩
 have hnl:news.length=(n-j)*3:=by rw[hnews];simp;omega
 have hn1:∀u∈news,u.oneCell'=true:=by
  intro u hu
  obtain⟨x,hx⟩:=zah.1 hu
  rw[hnews]at hx
  obtain⟨h2,h3⟩:=qpy hx
  exact h1 _ u (by omega) (by omega) h2
 rw[←hnews]
 obtain⟨A1,hA1⟩:∃A1,A1=laid arr (off+i*3) news:=⟨_,rfl⟩
 have hs1:A1.size=arr.size:=by rw[hA1];exact qcJ (by omega)
 obtain⟨W1,hW1⟩:∃W1,W1=w.drew.setRow b A1:=⟨_,rfl⟩
 have hb1:W1.heap[b]?=some (.cells A1 tb (0,0)):=by rw[hW1];exact setRow_heap w.drew b arr A1 tb (0,0) hb
 obtain⟨zs,hzl,hclr⟩:=ql0 (P:=prog) W1 38 102 0 _ (by kernel_rfl) (by rfl) b (off+(i+(n-j))*3) (n-(i+(n-j))) (cap-(i+(n-j))) A1 tb hb1 (by show off+(i+(n-j))*3+(n-(i+(n-j)))*3≤A1.size;omega) (by decide)
 rw[zo (by omega)]at hclr
 obtain⟨W2,hW2⟩:∃W2,W2=W1.setRow b (laid A1 (off+(i+(n-j))*3) zs):=⟨_,rfl⟩
 rw[←hW2]at hclr
 have hsz:(prog.info? 102).map (·.size)=some 3:=by kernel_rfl
 have hun:prog.underlying 38=some (.slice 102):=by kernel_rfl
 have hap:∀ty,(Builtin.append_ #[38,38] ty #[.slice (some ⟨b,off,none⟩) i cap,.slice (if cap=j then some ⟨b,off,none⟩ else some ⟨b,off+j*3,none⟩) (n-j) (cap-j)]).run prog w.drew=.ok (.slice (some ⟨b,off,none⟩) (i+(n-j)) cap) W1:=by
  intro ty
  cases hi:prog.info? 102 with
  | none=>rw[hi]at hsz;cases hsz
  | some i0=>
   rw[hi]at hsz
   have h5:i0.size=3:=by simpa using hsz
   have key:∀ad:Addr,(∀x u,news[x]?=some u→w.drew.cell? (ad.add x)=some u)→(Builtin.append_ #[38,38] ty #[.slice (some ⟨b,off,none⟩) i cap,.slice (some ad) (n-j) (cap-j)]).run prog w.drew=.ok (.slice (some ⟨b,off,none⟩) (i+(n-j)) cap) W1:=by
    intro ad had
    have:=qhi (P:=prog) (t:=38) (ty:=ty) hun hi w.drew b off i cap arr tb hb ad (n-j) (cap-j) news (by rw[hnl,h5]) had hn1 (by omega) (by rw[h5];omega)
    rw[this,hW1,hA1,h5]
    rfl
   split
   ·refine key _ fun x u hx=>?_
    have h0:news.length=0:=by rw[hnl];have:n-j=0:=(by omega);rw[this]
    rw[List.length_eq_zero_iff.1 h0]at hx
    simp at hx
   ·refine key _ fun x u hx=>?_
    rw[hnews]at hx
    obtain⟨h2,_⟩:=qpy hx
    rw[Addr.add_lit]
    exact qIY (w:=w.drew) hb h2
 have X:Aside (W2=(w.drew.setRow b A1).setRow b (laid A1 (off+(i+(n-j))*3) zs)):=by rw[hW2,hW1];trivial
 have hLlt:i+(n-j)<n:=by omega
 have hic:i≤cap:=by omega
 have hjc:j≤cap:=by omega
 have mixed:prog.follows .mixedOrders=true:=by kernel_rfl
 clear hW1 hW2 hb1 hb hnews hnl hn1 hs1 hsz hun h1
 go_enter func65,Tryz.ntmps65
 go_wp2_with fail
 go_region_law_o (refine qIX rfl (.tmp 22) (.tmp 25) 38 38 rfl _ _ (by simp[Act.eval,Act.put]) (by simp[Act.eval,Act.put]) (hap _) ?_)
 go_wp2
 all_goals (go_ret;exact⟨rfl,zs,hzl,by rw[←hA1];exact X⟩)
theorem News.e_fl(xs:List News):xs.map News.e=fl (xs.map fun r=>r.e.map D.unV):=by
 simp only[fl,List.map_map]
 rfl
theorem qI0(es:List (List Value))(i j:Nat)(hij:i<j)(hj:j≤es.length):RetG prog 65 [.one (.gv 3 (fl es) none),.one (.ro (I i)),.one (.ro (I j))] [.one (.sl 3 (fl (es.take i++es.drop j)))]:=by
 rintro w vs ω ⟨hg,hn,ha⟩
 obtain⟨y,hy,hy2⟩:=ha 0 _ rfl
 obtain⟨u1,hu1,hu12⟩:=ha 1 _ rfl
 obtain⟨u2,hu2,hu22⟩:=ha 2 _ rfl
 have e1:u1=.int .i64 i:=Rep.eq_v hu12
 have e2:u2=.int .i64 j:=Rep.eq_v hu22
 subst e1
 subst e2
 have hvs:=args3 hn hy hu1 hu2
 subst hvs
 rcases hg.row hy2 with⟨rfl,_⟩ | ⟨b,off,cap,arr,tb,hω,rfl,hr⟩
 ·simp at hj;omega
 have hown:ω b≠.imm:=by rw[hω];simp
 have hroom:=hr.room
 have hfit:=hr.fit
 have h1:∀x v,off≤x→x<off+es.length*3→arr[x]?=some v→v.oneCell'=true:=by
  intro x v hx1 hx2 hv
  have hlt:(x-off) / 3<es.length:=by omega
  have he:=zt hlt
  have hlen:=hr.len _ (zat hlt)
  have hlt2:(x-off) % 3<(es[(x-off) / 3]).length:=by omega
  have:=hr.cell _ _ _ _ he (zt hlt2)
  rw[show off+(x-off) / 3*3+(x-off) % 3=x by omega,hv]at this
  rw[zx this]
  exact hr.one _ (zat hlt) _ (zat hlt2)
 refine (qIZ b off es.length cap i j arr tb w hr.heap hroom hfit hij hj h1).mono ?_
 rintro e w' ⟨rfl,zs,hzs,rfl⟩
 obtain⟨news,hnews⟩:∃news,news=(arr.toList.drop (off+j*3)).take ((es.length-j)*3):=⟨_,rfl⟩
 rw[←hnews]
 have hnl:news.length=(es.length-j)*3:=by rw[hnews];simp;omega
 have hl1:off+i*3+news.length≤arr.size:=by omega
 have hs1:=qcJ hl1
 have hl2:off+(i+(es.length-j))*3+zs.length≤(laid arr (off+i*3) news).size:=by omega
 have hlen':(es.take i++es.drop j).length=i+(es.length-j):=by simp;omega
 have hL:LeftRow w ((w.drew.setRow b (laid arr (off+i*3) news)).setRow b (laid (laid arr (off+i*3) news) (off+(i+(es.length-j))*3) zs)) (fun b=>ω b≠.imm) 3 (es.take i++es.drop j) (.slice (some ⟨b,off,none⟩) (i+(es.length-j)) cap):=by
  refine⟨qoi hown _ _,.inr ⟨b,off,cap,_,tb,.inl hown,by rw[hlen'],?_,by omega,by rw[qcJ hl2,hs1];exact hfit,?_,?_,?_⟩⟩
  ·exact setRow_heap _ b _ _ tb (0,0) (setRow_heap w.drew b arr _ tb (0,0) hr.heap)
  ·intro e he
   rcases zau.1 he with h | h
   ·exact hr.len e (zbf h)
   ·exact hr.len e (zbm h)
  ·intro e he
   rcases zau.1 he with h | h
   ·exact hr.one e (zbf h)
   ·exact hr.one e (zbm h)
  ·intro x y e v hx hv
   have hxl:=(zk.1 hx).1
   rw[hlen']at hxl
   have hy:y<3:=by
    have h2:=(zk.1 hv).1
    have:e.length=3:=by
     have:=zw hx
     rcases zau.1 this with h | h
     ·exact hr.len e (zbf h)
     ·exact hr.len e (zbm h)
    omega
   rw[qbP hl2,zo (by omega),qbP hl1]
   by_cases hxi:x<i
   ·rw[zo (by omega)]
    refine hr.cell x y e v ?_ hv
    rwa[zbd (by simp;omega),zE,zq hxi]at hx
   ·rw[zq (by omega),hnews,zE,zq (by omega),zA,zH]
    have:(es.take i).length=i:=by simp;omega
    rw[zap (by omega),this,zA]at hx
    have:=hr.cell (j+(x-i)) y e v hx hv
    rw[←this]
    congr 1
    omega
 obtain⟨ω',h2,h3,h4⟩:=hL.res
 refine⟨_,rfl,hL.bel,ω',h2,h3,qoh ?_,h4⟩
 intro i' j' ga k es0 es' hga hc
 match i' with
 | 0=>simp at hga;subst hga;simp only[GA.cell]at hc;split at hc<;>simp at hc
 | 1=>simp at hga;subst hga;simp only[GA.cell]at hc;split at hc<;>simp at hc
 | 2=>simp at hga;subst hga;simp only[GA.cell]at hc;split at hc<;>simp at hc
 | _+3=>simp at hga
theorem qI1(xs:List News)(i j:Nat)(hij:i<j)(hj:j≤xs.length):RetG prog 65 [.one (.gv 3 (xs.map News.e) none),.one (.ro (I i)),.one (.ro (I j))] [.one (.sl 3 ((xs.take i++xs.drop j).map News.e))]:=by
 have:=qI0 (xs.map fun r=>r.e.map D.unV) i j hij (by simpa using hj)
 rw[News.e_fl,News.e_fl]
 simpa using this
end Go.Proofs.YtdanpadojemjeaaGreat
