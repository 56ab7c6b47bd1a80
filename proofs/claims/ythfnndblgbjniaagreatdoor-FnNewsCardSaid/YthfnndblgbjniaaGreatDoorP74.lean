import Derived.Test.YthfnndblgbjniaaGreatDoorP73
import Derived.Test.YthfnndblgbjniaaGreatDoorS2
import Derived.Shelf.Strings.OnBuilder
set_option linter.unusedVariables false
set_option linter.unusedSimpArgs false
namespace Go.Proofs.YthfnndblgbjniaaGreatDoor
open Go.Sx Go.RowKit Go.Proofs.Tryz
theorem Tryz.M7:Builder.Extra prog Tryz.M8 where
 sizeBuilder:=by kernel_rfl
 liesBuilder:=by kernel_rfl
 t5:=Tryz.underlying5
 a5:=Tryz.isAgg5
 z5:=Tryz.sizeOf5
 v5:=Tryz.zeroValue5
 infoByte:=by kernel_rfl
 cellsByte:=by kernel_rfl
 sizeByte:=by kernel_rfl
 neB5:=by decide
def piece(d:ca):List UInt8:=if d.dq then Lib.itoa d.bh++[33] else Lib.itoa d.bh
def kq(ds:List ca):List UInt8:=Lib.join (ds.map piece) [32]
theorem ah3(d:ca)(h:d.wf):(piece d).length<=22:=by
 have:=Lib.itoa_length_le d.bh h.1.1 h.1.2;unfold piece;split
 ·simp;omega
 omega
theorem ah4:∀(xs:List (List UInt8)),(∀x∈xs,x.length<=22)->(Lib.join xs [32]).length<=xs.length*23
 | [],_=>by simp[Lib.join_nil]
 | x::r,h=>by
  rw[Lib.join_cons,ku,Lib.joinTail_length];have U:=h x (by simp);have aa:Lib.lens r<=r.length*22:=by
   have aA:∀y∈r,y.length<=22:=fun y bO=>h y (hb _ bO)
   clear h;induction r with
   | nil=>simp[Lib.lens]
   | cons y r d'=>
    have aO:=d' (fun z bk=>aA z (hb _ bk));have a8:=aA y (by simp);simp only[Lib.lens,lu,Aq,gP]at aO ⊢;omega
  simp only[gP,dM];omega
theorem ah5(xs:List (List UInt8))(y:List UInt8):Lib.join (xs++[y]) [32]=if xs=[] then y else Lib.join xs [32]++[32]++y:=by
 cases xs with
 | nil=>simp[Lib.join_one]
 | cons x r=>
  rw[bE (by simp),List.cons_append,Lib.join_cons,Lib.join_cons];simp[Lib.joinTail]
theorem SW{ds:List ca}(h:∀d∈ds,d.wf)(i:Nat):(Lib.join ((ds.take i).map piece) [32]).length<=ds.length*23:=by
 have U:=ah4 ((ds.take i).map piece) (fun x ao=>by
  obtain⟨d,aF,rfl⟩:=kX.1 ao;exact ah3 d (h d (vk aF)))
 rw[cr,qm]at U;omega
theorem ahz(xs:List (List UInt8))(a7:xs.length<=8388608)(au:(Lib.join xs [32]).length<=140737488355328):ax 54 [.one (.J 1 (xs.map qD)),.one (.v (.string (fo [32])))] [.one (.v (.string (fo (Lib.join xs [32]))))]:=by
 intro w vs _ br;obtain⟨v,U,aa⟩:=br.2 0 _ rfl;obtain⟨u,aA,aO⟩:=br.2 1 _ rfl;have e:u=.string (fo [32]):=bS.AR aO;subst e;have nE:=U2 br.1 U aA;subst nE;have fin:∀{aP:World},Below w.heap.size w aP->tr w aP [.one (.v (.string (fo (Lib.join xs [32]))))] (.string (fo (Lib.join xs [32]))):=fun _=>⟨fun _=>.bz,fun _ _=>rfl,fun b aw=>absurd rfl aw,bS.v _ _ rfl⟩
 generalize tL:xs.map qD=es at aa;have Vp:jX w (.J 1 es) v:=aa;cases Vp with
 | nil R k a=>
  have:xs=[]:=by simpa using tL
  subst this;refine (Any.strings_Join_none Tryz.join Tryz.M7 a 0 (fo [32]) w).mono ?_;rintro e aP ⟨rfl,rfl⟩;exact⟨_,rfl,fC.refl _ _,fin (Below.refl _ _)⟩
 | row R k _ b off cap arr ty cF us aw dz ap aj bc hu aF=>
  subst tL;rw[cr]at ap ⊢;have eI:∀(j:Nat) x,(xs.map fo)[j]?=some x->w.cell? ⟨b,off+j,none⟩=some (.string x):=by
   intro j x ao;rw[dk,b0]at ao;obtain⟨l,au,rfl⟩:=ao;have AZ:cN (xs.map qD) j 0=some (.v (.string (fo l))):=by
    unfold cN;rw[dk,au];rfl
   have a8:=hu j 0 _ AZ;have bG:=aF j 0 _ AZ;generalize us j 0=z at a8 bG;cases bG;exact cell_of_heap aw (by simpa using a8)
  have eE:b<w.heap.size:=by
   rcases qn b w.heap.size with h | h
   ·exact h
   simp[An h]at aw
  have em:(xs.map fo).map (·.data.toList)=xs:=by
   rw[List.map_map]
   conv=>rhs;rw[<-pu xs]
   rfl
  have:=Any.strings_Join Tryz.join Tryz.M7 b off cap (xs.map fo) (fo [32]) w eI eE (by simp;omega) (by simpa using ap) (by rw[em];exact au);rw[cr,em]at this;refine this.mono ?_;rintro e aP ⟨rfl,iK⟩;exact⟨_,rfl,⟨iK,fun h=>by cases h⟩,fin iK⟩
theorem ahA(ds:List ca)(hw:∀d∈ds,d.wf)(au:ds.length<=8388608):c0 prog (aq f19 0) (sA (ds.map ca.e) 0 []) (.exit 0) (Db ((ds.map piece).map qD)):=by
 have key:=eu (P:=prog) (c:=(aq f19 0)) (e:=.exit 0) (cI 0) ds.length (fun i=>sA (ds.map ca.e) i (((ds.take i).map piece).map qD))
  (stE:=Db ((ds.map piece).map qD)) (fun i hi=>?_) (by
   rw[jH];exact ait ⟨dv,ad⟩)
 ·simpa using key
 obtain⟨d,aF⟩:=cS hi;have sd:=hw d (fe aF);have hlen:=Lib.itoa_length_le d.bh sd.1.1 sd.1.2;have e:((ds.take (i+1)).map piece).map qD=((ds.take i).map piece).map qD++[qD (piece d)]:=by
  rw[rS,aF];simp
 rw[e];cases ap:d.dq with
 | true=>
  have hp:piece d=Lib.itoa d.bh++[33]:=by unfold piece;rw[ap];rfl
  rw[hp];exact air ⟨b3 hi,bn,bt hi,bp ca.e aF,SU d.bh sd.1,ap,pa _ [33] (by simp<;>omega),by simp<;>omega,by simp<;>omega,by simp[Flat],cT hi au,ad⟩
 | false=>
  have hp:piece d=Lib.itoa d.bh:=by unfold piece;rw[ap];rfl
  rw[hp];exact ais ⟨b3 hi,bn,bt hi,bp ca.e aF,SU d.bh sd.1,ap,by simp<;>omega,by simp<;>omega,by simp[Flat],cT hi au,ad⟩
theorem SX(w:aR)(hw:∀d∈w.bx,d.wf)(au:w.bx.length<=8388608):ax 19 [.agg w.e] [.one (.v (.string (fo (kq w.bx))))]:=by
 have bm:=SW hw w.bx.length;rw[jH]at bm;exact aiu ⟨ahA w.bx hw au,ahz (w.bx.map piece) (by simpa using au) (by omega),ad⟩
theorem ahB(w:aR)(hw:∀d∈w.bx,d.wf)(au:w.bx.length<=8388608):c0 prog (aq f20 0) (nZ (w.queue.map aH.e) (w.cn.map aH.e) (w.cb.map aH.e) (w.cells.map Cell.e) (w.bN.map ba) (w.bW.map cu) (w.bB.map cu) (w.bx.map ca.e) 0 (fo [])) (.exit 0) (Dc (fo (kq w.bx))):=by
 have key:=eu (P:=prog) (c:=(aq f20 0)) (e:=.exit 0) (cI 0) w.bx.length (fun i=>nZ (w.queue.map aH.e) (w.cn.map aH.e) (w.cb.map aH.e) (w.cells.map Cell.e) (w.bN.map ba) (w.bW.map cu) (w.bB.map cu) (w.bx.map ca.e) i (fo (kq (w.bx.take i))))
  (stE:=Dc (fo (kq w.bx))) (fun i hi=>?_) (by
   rw[jH];exact ahI ⟨dv,ad⟩)
 ·have bk:kq []=[]:=rfl;simpa[bk]using key
 obtain⟨d,aF⟩:=cS hi;have sd:=hw d (fe aF);have hlen:=Lib.itoa_length_le d.bh sd.1.1 sd.1.2;have eL:=SW hw i;have e:kq (w.bx.take (i+1))=if i=0 then piece d else kq (w.bx.take i)++[32]++piece d:=by
  unfold kq;rw[rS,aF,Ao,gy,lu,List.map_nil,ah5];by_cases bV:i=0
  ·subst bV;rfl
  rw[bE bV,bE];intro bH;have a8:=congrArg List.length bH;rw[cr,qm,dM]at a8;omega
 have tR:(kq (w.bx.take i)).length<=w.bx.length*23:=eL;have bk:(kq (w.bx.take 0))=[]:=rfl;rw[e];have dec:=ahY d.bh sd.1;by_cases bV:i=0
 ·subst bV;rw[bU rfl,bk];cases ap:d.dq with
  | true=>
   have hp:piece d=[]++Lib.itoa d.bh++[33]:=by unfold piece;rw[ap];rfl
   rw[hp];exact ahG ⟨b3 hi,rfl,bn,bt hi,bp ca.e aF,dec,pa [] _ (by simp<;>omega),bn,bt hi,bp ca.e aF,ap,pa _ [33] (by simp<;>omega),cT hi au,ad⟩
  | false=>
   have hp:piece d=[]++Lib.itoa d.bh:=by unfold piece;rw[ap];rfl
   rw[hp];exact ahH ⟨b3 hi,rfl,bn,bt hi,bp ca.e aF,dec,pa [] _ (by simp<;>omega),bn,bt hi,bp ca.e aF,ap,cT hi au,ad⟩
 rw[bE bV];cases ap:d.dq with
 | true=>
  have hp:kq (w.bx.take i)++[32]++piece d=kq (w.bx.take i)++[32]++Lib.itoa d.bh++[33]:=by unfold piece;rw[ap];simp
  rw[hp];exact aiv ⟨b3 hi,dV (by omega),pa _ [32] (by simp<;>omega),bn,bt hi,bp ca.e aF,dec,pa _ _ (by simp<;>omega),bn,bt hi,bp ca.e aF,ap,pa _ [33] (by simp<;>omega),cT hi au,ad⟩
 | false=>
  have hp:kq (w.bx.take i)++[32]++piece d=kq (w.bx.take i)++[32]++Lib.itoa d.bh:=by unfold piece;rw[ap];rfl
  rw[hp];exact aiw ⟨b3 hi,dV (by omega),pa _ [32] (by simp<;>omega),bn,bt hi,bp ca.e aF,dec,pa _ _ (by simp<;>omega),bn,bt hi,bp ca.e aF,ap,cT hi au,ad⟩
theorem ahC(w:aR)(hw:∀d∈w.bx,d.wf)(au:w.bx.length<=8388608):ax 20 [.agg w.e] [.one (.v (.string (fo (kq w.bx))))]:=
 ahJ _ _ _ _ _ _ _ _ _ ⟨ahB w hw au,ad⟩
