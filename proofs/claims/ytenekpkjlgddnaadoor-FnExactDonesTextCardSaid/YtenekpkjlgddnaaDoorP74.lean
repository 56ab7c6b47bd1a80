/- DonesText: the program's by strings.Join, the reference's by hand. -/
import Derived.Test.YtenekpkjlgddnaaDoorP73
import Derived.Test.YtenekpkjlgddnaaDoorS2
import Derived.Shelf.Strings.OnBuilder
set_option linter.unusedVariables false
set_option linter.unusedSimpArgs false
namespace Go.Proofs.YtenekpkjlgddnaaDoor
open Go.Sx Go.RowKit Go.Proofs.Tryd
theorem Tryd.joinX:Builder.Extra prog Tryd.join_ren where
 sizeBuilder:=by kernel_rfl
 liesBuilder:=by kernel_rfl
 t5:=Tryd.underlying5
 a5:=Tryd.isAgg5
 z5:=Tryd.sizeOf5
 v5:=Tryd.zeroValue5
 infoByte:=by kernel_rfl
 cellsByte:=by kernel_rfl
 sizeByte:=by kernel_rfl
 neB5:=by decide
def piece(d:Done):List UInt8:=if d.capped then Lib.itoa d.epoch++[33] else Lib.itoa d.epoch
def qaC(ds:List Done):List UInt8:=Lib.join (ds.map piece) [32]
theorem qlr(d:Done)(h:d.wf):(piece d).length≤22:=by
 have:=Lib.itoa_length_le d.epoch h.1.1 h.1.2
 unfold piece
 split
 ·simp
  omega
 ·omega
theorem qls:∀(xs:List (List UInt8)),(∀x∈xs,x.length≤22)→(Lib.join xs [32]).length≤xs.length*23
 | [],_=>by simp[Lib.join_nil]
 | x::r,h=>by
  rw[Lib.join_cons,zab,Lib.joinTail_length]
  have h1:=h x (by simp)
  have h2:Lib.lens r≤r.length*22:=by
   have h3:∀y∈r,y.length≤22:=fun y hy=>h y (zg _ hy)
   clear h
   induction r with
   | nil=>simp[Lib.lens]
   | cons y r ih=>
    have h4:=ih (fun z hz=>h3 z (zg _ hz))
    have h5:=h3 y (by simp)
    simp only[Lib.lens,zav,zcw,zq]at h4 ⊢
    omega
  simp only[zq,zh]
  omega
theorem qlt(xs:List (List UInt8))(y:List UInt8):Lib.join (xs++[y]) [32]=if xs=[] then y else Lib.join xs [32]++[32]++y:=by
 cases xs with
 | nil=>simp[Lib.join_one]
 | cons x r=>
  rw[zo (by simp),List.cons_append,Lib.join_cons,Lib.join_cons]
  simp[Lib.joinTail]
theorem qhA{ds:List Done}(h:∀d∈ds,d.wf)(i:Nat):(Lib.join ((ds.take i).map piece) [32]).length≤ds.length*23:=by
 have h1:=qls ((ds.take i).map piece) (fun x hx=>by
  obtain⟨d,hd,rfl⟩:=zbm.1 hx
  exact qlr d (h d (zbh hd)))
 rw[zb,zay]at h1
 omega
theorem qlu(xs:List (List UInt8))(hn:xs.length≤8388608)(hl:(Lib.join xs [32]).length≤140737488355328):Rt 27 [.one (.sl 1 (xs.map eS)),.one (.v (.string (txt [32])))] [.one (.v (.string (txt (Lib.join xs [32]))))]:=by
 intro w vs _ hv
 obtain⟨v,h1,h2⟩:=hv.2 0 _ rfl
 obtain⟨u,h3,h4⟩:=hv.2 1 _ rfl
 have e:u=.string (txt [32]):=Rep.eq_v h4
 subst e
 have hvs:=args2 hv.1 h1 h3
 subst hvs
 have fin:∀{w':World},Below w.heap.size w w'→ResOk w w' [.one (.v (.string (txt (Lib.join xs [32]))))] (.string (txt (Lib.join xs [32]))):=fun _=>⟨fun _=>.imm,fun _ _=>rfl,fun b hb=>absurd rfl hb,Rep.v _ _ rfl⟩
 generalize hes:xs.map eS=es at h2
 have h2':qas w (.sl 1 es) v:=h2
 cases h2' with
 | nil R k a=>
  have:xs=[]:=by simpa using hes
  subst this
  refine (Any.strings_Join_none Tryd.join Tryd.joinX a 0 (txt [32]) w).mono ?_
  rintro e w' ⟨rfl,rfl⟩
  exact⟨_,rfl,Blw.refl _ _,fin (Below.refl _ _)⟩
 | row R k _ b off cap arr ty fr us hb hR hc hs hk hu hd=>
  subst hes
  rw[zb]at hc ⊢
  have hcell:∀(j:Nat) x,(xs.map txt)[j]?=some x→w.cell? ⟨b,off+j,none⟩=some (.string x):=by
   intro j x hx
   rw[zr,zc]at hx
   obtain⟨l,hl,rfl⟩:=hx
   have hc0:qaa (xs.map eS) j 0=some (.v (.string (txt l))):=by
    unfold qaa
    rw[zr,hl]
    rfl
   have h5:=hu j 0 _ hc0
   have h6:=hd j 0 _ hc0
   generalize us j 0=z at h5 h6
   cases h6
   exact qfu hb (by simpa using h5)
  have hb':b<w.heap.size:=by
   rcases zbp b w.heap.size with h | h
   ·exact h
   ·simp[zcn h]at hb
  have em:(xs.map txt).map (·.data.toList)=xs:=by
   rw[List.map_map]
   conv=>rhs;rw[←zcf xs]
   rfl
  have:=Any.strings_Join Tryd.join Tryd.joinX b off cap (xs.map txt) (txt [32]) w hcell hb' (by simp;omega) (by simpa using hc) (by rw[em];exact hl)
  rw[zb,em]at this
  refine this.mono ?_
  rintro e w' ⟨rfl,hbel⟩
  exact⟨_,rfl,⟨hbel,fun h=>by cases h⟩,fin hbel⟩
theorem qlv(ds:List Done)(hw:∀d∈ds,d.wf)(hl:ds.length≤8388608):qap prog (qac f11 0) (qbC (ds.map Done.e) 0 []) (.exit 0) (qdJ ((ds.map piece).map eS)):=by
 have key:=qcj (P:=prog) (c:=(qac f11 0)) (e:=.exit 0) (qci 0) ds.length (fun i=>qbC (ds.map Done.e) i (((ds.take i).map piece).map eS))
  (stE:=qdJ ((ds.map piece).map eS)) (fun i hi=>?_) (by
   rw[zC]
   exact qk4 ⟨ge1,trivial⟩)
 ·simpa using key
 ·obtain⟨d,hd⟩:=qdA hi
  have hdw:=hw d (zw hd)
  have hlen:=Lib.itoa_length_le d.epoch hdw.1.1 hdw.1.2
  have e:((ds.take (i+1)).map piece).map eS=((ds.take i).map piece).map eS++[eS (piece d)]:=by
   rw[zbe,hd];simp
  rw[e]
  cases hc:d.capped with
  | true=>
   have hp:piece d=Lib.itoa d.epoch++[33]:=by unfold piece;rw[hc];rfl
   rw[hp]
   exact qk2 _ _ _ _ _ _ _ ⟨lt1 hi,lt0,lt2 hi,qae Done.e hd,qhy d.epoch hdw.1,hc,qa7 _ [33] (by simp<;>omega),by simp<;>omega,by simp<;>omega,by simp[Flat],up1 hi hl,trivial⟩
  | false=>
   have hp:piece d=Lib.itoa d.epoch:=by unfold piece;rw[hc];rfl
   rw[hp]
   exact qk3 _ _ _ _ _ _ ⟨lt1 hi,lt0,lt2 hi,qae Done.e hd,qhy d.epoch hdw.1,hc,by simp<;>omega,by simp<;>omega,by simp[Flat],up1 hi hl,trivial⟩
theorem qlw(w:Worker)(hw:∀d∈w.dones,d.wf)(hl:w.dones.length≤8388608):Rt 11 [.agg w.e] [.one (.v (.string (txt (qaC w.dones))))]:=by
 have hj:=qhA hw w.dones.length
 rw[zC]at hj
 exact qk5 _ _ _ _ _ _ _ _ _ _ ⟨qlv w.dones hw hl,qlu (w.dones.map piece) (by simpa using hl) (by omega),trivial⟩
theorem qlx(w:Worker)(hw:∀d∈w.dones,d.wf)(hl:w.dones.length≤8388608):qap prog (qac f9 0) (qaX (w.queue.map Record.e) (w.staged.map Record.e) (w.inputs.map Record.e) (w.cells.map Cell.e) (w.sums.map eI) (w.black.map eB) (w.caps.map eB) (w.dones.map Done.e) 0 (txt [])) (.exit 0) (qdK (txt (qaC w.dones))):=by
 have key:=qcj (P:=prog) (c:=(qac f9 0)) (e:=.exit 0) (qci 0) w.dones.length (fun i=>qaX (w.queue.map Record.e) (w.staged.map Record.e) (w.inputs.map Record.e) (w.cells.map Cell.e) (w.sums.map eI) (w.black.map eB) (w.caps.map eB) (w.dones.map Done.e) i (txt (qaC (w.dones.take i))))
  (stE:=qdK (txt (qaC w.dones))) (fun i hi=>?_) (by
   rw[zC]
   exact qla _ _ _ _ _ _ _ _ _ _ ⟨ge1,trivial⟩)
 ·have hz:qaC []=[]:=rfl
  simpa[hz]using key
 ·obtain⟨d,hd⟩:=qdA hi
  have hdw:=hw d (zw hd)
  have hlen:=Lib.itoa_length_le d.epoch hdw.1.1 hdw.1.2
  have hsz:=qhA hw i
  have e:qaC (w.dones.take (i+1))=if i=0 then piece d else qaC (w.dones.take i)++[32]++piece d:=by
   unfold qaC
   rw[zbe,hd,zcp,zU,zav,List.map_nil,qlt]
   by_cases h0:i=0
   ·subst h0;rfl
   ·rw[zo h0,zo]
    intro hh
    have h5:=congrArg List.length hh
    rw[zb,zay,zh]at h5
    omega
  have hsz':(qaC (w.dones.take i)).length≤w.dones.length*23:=hsz
  have hz:(qaC (w.dones.take 0))=[]:=rfl
  rw[e]
  have dec:=qlq d.epoch hdw.1
  by_cases h0:i=0
  ·subst h0
   rw[zp rfl,hz]
   cases hc:d.capped with
   | true=>
    have hp:piece d=[]++Lib.itoa d.epoch++[33]:=by unfold piece;rw[hc];rfl
    rw[hp]
    exact qk8 _ _ _ _ _ _ _ _ _ _ _ _ _ _ _ _ _ ⟨lt1 hi,rfl,lt0,lt2 hi,qae Done.e hd,dec,qa7 [] _ (by simp<;>omega),lt0,lt2 hi,qae Done.e hd,hc,qa7 _ [33] (by simp<;>omega),up1 hi hl,trivial⟩
   | false=>
    have hp:piece d=[]++Lib.itoa d.epoch:=by unfold piece;rw[hc];rfl
    rw[hp]
    exact qk9 _ _ _ _ _ _ _ _ _ _ _ _ _ _ _ _ ⟨lt1 hi,rfl,lt0,lt2 hi,qae Done.e hd,dec,qa7 [] _ (by simp<;>omega),lt0,lt2 hi,qae Done.e hd,hc,up1 hi hl,trivial⟩
  ·rw[zo h0]
   cases hc:d.capped with
   | true=>
    have hp:qaC (w.dones.take i)++[32]++piece d=qaC (w.dones.take i)++[32]++Lib.itoa d.epoch++[33]:=by unfold piece;rw[hc];simp
    rw[hp]
    exact qk6 _ _ _ _ _ _ _ _ _ _ _ _ _ _ _ _ _ _ ⟨lt1 hi,dT (by omega),qa7 _ [32] (by simp<;>omega),lt0,lt2 hi,qae Done.e hd,dec,qa7 _ _ (by simp<;>omega),lt0,lt2 hi,qae Done.e hd,hc,qa7 _ [33] (by simp<;>omega),up1 hi hl,trivial⟩
   | false=>
    have hp:qaC (w.dones.take i)++[32]++piece d=qaC (w.dones.take i)++[32]++Lib.itoa d.epoch:=by unfold piece;rw[hc];rfl
    rw[hp]
    exact qk7 _ _ _ _ _ _ _ _ _ _ _ _ _ _ _ _ _ ⟨lt1 hi,dT (by omega),qa7 _ [32] (by simp<;>omega),lt0,lt2 hi,qae Done.e hd,dec,qa7 _ _ (by simp<;>omega),lt0,lt2 hi,qae Done.e hd,hc,up1 hi hl,trivial⟩
theorem qly(w:Worker)(hw:∀d∈w.dones,d.wf)(hl:w.dones.length≤8388608):Rt 9 [.agg w.e] [.one (.v (.string (txt (qaC w.dones))))]:=
 qlb _ _ _ _ _ _ _ _ _ ⟨qlx w hw hl,trivial⟩
end Go.Proofs.YtenekpkjlgddnaaDoor
