/- From a reading of an argument to a structure (printed by gentypes.py) -/
import Derived.Test.YtdanpadojemjeaaGreatB0
import Derived.Test.YtdanpadojemjeaaGreatR15
import Derived.JoinedOf
set_option linter.unusedVariables false
set_option linter.unusedSimpArgs false
namespace Go.Proofs.YtdanpadojemjeaaGreat
open Go.Sx Go.RowKit
theorem Tryz.own:ownKnob Tryz.prog.godebug=none:=by kernel_rfl
theorem Tryz.laidOut:laidOutB Tryz.prog=true:=by kernel_rfl
theorem qa4{P:Program}{t:TypeId}{ds:List D}(hu:P.underlying t=some (.int .i64))(h:ShD P t ds):∃n,ds=[I n]∧inInt .i64 n:=by
 have h2:∃n,ds=[.v (.int .i64 n)]∧(Lit.int .i64 n).wf=true:=by cases h<;>simp_all
 obtain⟨n,e,hw⟩:=h2
 refine⟨n,e,?_⟩
 simp[Lit.wf]at hw
 have h3:IntKind.i64.min=-9223372036854775808:=rfl
 rw[h3]at hw
 exact hw
theorem qf9{P:Program}{t:TypeId}{ds:List D}(hu:P.underlying t=some .bool)(h:ShD P t ds):∃b,ds=[B b]:=by
 cases h<;>simp_all
theorem qtn{P:Program}{t e:TypeId}{ds:List D}(hu:P.underlying t=some (.slice e))(h:ShD P t ds):∃es,ds=[.sl (P.cellsOf e) es]∧es.length≤maxLen∧∀x∈es,ShD P e x:=by
 cases h<;>simp_all
theorem qcI{P:Program}{t:TypeId}{fs:Array Field}{ds:List D}(hu:P.underlying t=some (.struct fs))(h:ShD P t ds):ds.length=P.cellsOf t∧∀f∈fs.toList,ShD P f.type ((ds.drop f.offset).take (P.cellsOf f.type)):=by
 cases h<;>simp_all
theorem qn2{α:Type}(f:α→List D)(W:α→Prop):∀{es:List (List D)},(∀ds∈es,∃a,ds=f a∧W a)→∃xs:List α,es=xs.map f∧∀a∈xs,W a
 | [],_=>⟨[],rfl,by simp⟩
 | ds::es,h=>by
  obtain⟨a,rfl,ha⟩:=h ds (by simp)
  obtain⟨xs,rfl,hxs⟩:=qn2 f W (es:=es) fun x hx=>h x (by simp[hx])
  refine⟨a::xs,rfl,fun b hb=>?_⟩
  rcases zL.1 hb with rfl | hb
  ·exact ha
  ·exact hxs b hb
theorem qcY{α:Type}(f:α→List D)(W:α→Prop){P:Program}{t e:TypeId}{k:Nat}(hu:P.underlying t=some (.slice e))(hk:P.cellsOf e=k)(hel:∀ds,ShD P e ds→∃a,ds=f a∧W a){ds:List D}(h:ShD P t ds):
  ∃xs:List α,ds=[.sl k (xs.map f)]∧(xs.length:Int)≤9223372036854775807∧∀a∈xs,W a:=by
 obtain⟨es,rfl,hl,he⟩:=qtn hu h
 obtain⟨xs,rfl,hxs⟩:=qn2 f W fun ds hds=>hel ds (he ds hds)
 refine⟨xs,by rw[hk],?_,hxs⟩
 have hm:maxLen=9223372036854775807:=rfl
 rw[zb]at hl
 omega
theorem lst1{α:Type}{l:List α}(h:l.length=1):∃a0,l=[a0]:=by
 match l,h with
 | [a0],_=>exact⟨a0,rfl⟩
theorem lst2{α:Type}{l:List α}(h:l.length=2):∃a0 a1,l=[a0,a1]:=by
 match l,h with
 | [a0,a1],_=>exact⟨a0,a1,rfl⟩
theorem lst3{α:Type}{l:List α}(h:l.length=3):∃a0 a1 a2,l=[a0,a1,a2]:=by
 match l,h with
 | [a0,a1,a2],_=>exact⟨a0,a1,a2,rfl⟩
theorem lst4{α:Type}{l:List α}(h:l.length=4):∃a0 a1 a2 a3,l=[a0,a1,a2,a3]:=by
 match l,h with
 | [a0,a1,a2,a3],_=>exact⟨a0,a1,a2,a3,rfl⟩
theorem lst5{α:Type}{l:List α}(h:l.length=5):∃a0 a1 a2 a3 a4,l=[a0,a1,a2,a3,a4]:=by
 match l,h with
 | [a0,a1,a2,a3,a4],_=>exact⟨a0,a1,a2,a3,a4,rfl⟩
theorem lst6{α:Type}{l:List α}(h:l.length=6):∃a0 a1 a2 a3 a4 a5,l=[a0,a1,a2,a3,a4,a5]:=by
 match l,h with
 | [a0,a1,a2,a3,a4,a5],_=>exact⟨a0,a1,a2,a3,a4,a5,rfl⟩
theorem lst7{α:Type}{l:List α}(h:l.length=7):∃a0 a1 a2 a3 a4 a5 a6,l=[a0,a1,a2,a3,a4,a5,a6]:=by
 match l,h with
 | [a0,a1,a2,a3,a4,a5,a6],_=>exact⟨a0,a1,a2,a3,a4,a5,a6,rfl⟩
theorem lst8{α:Type}{l:List α}(h:l.length=8):∃a0 a1 a2 a3 a4 a5 a6 a7,l=[a0,a1,a2,a3,a4,a5,a6,a7]:=by
 match l,h with
 | [a0,a1,a2,a3,a4,a5,a6,a7],_=>exact⟨a0,a1,a2,a3,a4,a5,a6,a7,rfl⟩
theorem Tryz.cells3:Tryz.prog.cellsOf 3=1:=by kernel_rfl
theorem Tryz.cells4:Tryz.prog.cellsOf 4=1:=by kernel_rfl
theorem Tryz.cells144:Tryz.prog.cellsOf 144=2:=by kernel_rfl
theorem qto{ds:List D}(h:ShD Tryz.prog 144 ds):∃x:Stamp,ds=x.e∧x.wf:=by
 obtain⟨hl,hf⟩:=qcI Tryz.underlying144 h
 rw[Tryz.cells144]at hl
 obtain⟨a0,a1,rfl⟩:=lst2 hl
 have g0:ShD Tryz.prog 3 [a0]:=by
  have:=hf _ (zm ..)
  rw[Tryz.cells3]at this
  exact this
 obtain⟨v0,e0,w0⟩:=qa4 Tryz.underlying3 g0
 obtain rfl:=(zG e0).1
 have g1:ShD Tryz.prog 3 [a1]:=by
  have:=hf _ (zg _ (zm ..))
  rw[Tryz.cells3]at this
  exact this
 obtain⟨v1,e1,w1⟩:=qa4 Tryz.underlying3 g1
 obtain rfl:=(zG e1).1
 exact⟨⟨v0,v1⟩,rfl,⟨w0,w1⟩⟩
theorem Tryz.cells146:Tryz.prog.cellsOf 146=5:=by kernel_rfl
theorem qtp{ds:List D}(h:ShD Tryz.prog 146 ds):∃x:Record,ds=x.e∧x.wf:=by
 obtain⟨hl,hf⟩:=qcI Tryz.underlying146 h
 rw[Tryz.cells146]at hl
 obtain⟨a0,a1,a2,a3,a4,rfl⟩:=lst5 hl
 have g0:ShD Tryz.prog 3 [a0]:=by
  have:=hf _ (zm ..)
  rw[Tryz.cells3]at this
  exact this
 obtain⟨v0,e0,w0⟩:=qa4 Tryz.underlying3 g0
 obtain rfl:=(zG e0).1
 have g1:ShD Tryz.prog 144 [a1,a2]:=by
  have:=hf _ (zg _ (zm ..))
  rw[Tryz.cells144]at this
  exact this
 obtain⟨v1,e1,w1⟩:=qto g1
 simp only[Stamp.e,zbr,and_true]at e1
 obtain⟨rfl,rfl⟩:=e1
 have g2:ShD Tryz.prog 3 [a3]:=by
  have:=hf _ (zg _ (zg _ (zm ..)))
  rw[Tryz.cells3]at this
  exact this
 obtain⟨v2,e2,w2⟩:=qa4 Tryz.underlying3 g2
 obtain rfl:=(zG e2).1
 have g3:ShD Tryz.prog 3 [a4]:=by
  have:=hf _ (zg _ (zg _ (zg _ (zm ..))))
  rw[Tryz.cells3]at this
  exact this
 obtain⟨v3,e3,w3⟩:=qa4 Tryz.underlying3 g3
 obtain rfl:=(zG e3).1
 exact⟨⟨v0,v1,v2,v3⟩,rfl,⟨w0,w1,w2,w3⟩⟩
theorem Tryz.cells245:Tryz.prog.cellsOf 245=4:=by kernel_rfl
theorem qtq{ds:List D}(h:ShD Tryz.prog 245 ds):∃x:Cell,ds=x.e∧x.wf:=by
 obtain⟨hl,hf⟩:=qcI Tryz.underlying245 h
 rw[Tryz.cells245]at hl
 obtain⟨a0,a1,a2,a3,rfl⟩:=lst4 hl
 have g0:ShD Tryz.prog 3 [a0]:=by
  have:=hf _ (zm ..)
  rw[Tryz.cells3]at this
  exact this
 obtain⟨v0,e0,w0⟩:=qa4 Tryz.underlying3 g0
 obtain rfl:=(zG e0).1
 have g1:ShD Tryz.prog 3 [a1]:=by
  have:=hf _ (zg _ (zm ..))
  rw[Tryz.cells3]at this
  exact this
 obtain⟨v1,e1,w1⟩:=qa4 Tryz.underlying3 g1
 obtain rfl:=(zG e1).1
 have g2:ShD Tryz.prog 3 [a2]:=by
  have:=hf _ (zg _ (zg _ (zm ..)))
  rw[Tryz.cells3]at this
  exact this
 obtain⟨v2,e2,w2⟩:=qa4 Tryz.underlying3 g2
 obtain rfl:=(zG e2).1
 have g3:ShD Tryz.prog 3 [a3]:=by
  have:=hf _ (zg _ (zg _ (zg _ (zm ..))))
  rw[Tryz.cells3]at this
  exact this
 obtain⟨v3,e3,w3⟩:=qa4 Tryz.underlying3 g3
 obtain rfl:=(zG e3).1
 exact⟨⟨v0,v1,v2,v3⟩,rfl,⟨w0,w1,w2,w3⟩⟩
theorem Tryz.cells247:Tryz.prog.cellsOf 247=2:=by kernel_rfl
theorem qtr{ds:List D}(h:ShD Tryz.prog 247 ds):∃x:Done,ds=x.e∧x.wf:=by
 obtain⟨hl,hf⟩:=qcI Tryz.underlying247 h
 rw[Tryz.cells247]at hl
 obtain⟨a0,a1,rfl⟩:=lst2 hl
 have g0:ShD Tryz.prog 3 [a0]:=by
  have:=hf _ (zm ..)
  rw[Tryz.cells3]at this
  exact this
 obtain⟨v0,e0,w0⟩:=qa4 Tryz.underlying3 g0
 obtain rfl:=(zG e0).1
 have g1:ShD Tryz.prog 4 [a1]:=by
  have:=hf _ (zg _ (zm ..))
  rw[Tryz.cells4]at this
  exact this
 obtain⟨v1,e1⟩:=qf9 Tryz.underlying4 g1
 obtain rfl:=(zG e1).1
 exact⟨⟨v0,v1⟩,rfl,⟨w0⟩⟩
theorem Tryz.cells166:Tryz.prog.cellsOf 166=5:=by kernel_rfl
theorem qts{ds:List D}(h:ShD Tryz.prog 166 ds):∃x:Token,ds=x.e∧x.wf:=by
 obtain⟨hl,hf⟩:=qcI Tryz.underlying166 h
 rw[Tryz.cells166]at hl
 obtain⟨a0,a1,a2,a3,a4,rfl⟩:=lst5 hl
 have g0:ShD Tryz.prog 4 [a0]:=by
  have:=hf _ (zm ..)
  rw[Tryz.cells4]at this
  exact this
 obtain⟨v0,e0⟩:=qf9 Tryz.underlying4 g0
 obtain rfl:=(zG e0).1
 have g1:ShD Tryz.prog 3 [a1]:=by
  have:=hf _ (zg _ (zm ..))
  rw[Tryz.cells3]at this
  exact this
 obtain⟨v1,e1,w1⟩:=qa4 Tryz.underlying3 g1
 obtain rfl:=(zG e1).1
 have g2:ShD Tryz.prog 3 [a2]:=by
  have:=hf _ (zg _ (zg _ (zm ..)))
  rw[Tryz.cells3]at this
  exact this
 obtain⟨v2,e2,w2⟩:=qa4 Tryz.underlying3 g2
 obtain rfl:=(zG e2).1
 have g3:ShD Tryz.prog 4 [a3]:=by
  have:=hf _ (zg _ (zg _ (zg _ (zm ..))))
  rw[Tryz.cells4]at this
  exact this
 obtain⟨v3,e3⟩:=qf9 Tryz.underlying4 g3
 obtain rfl:=(zG e3).1
 have g4:ShD Tryz.prog 4 [a4]:=by
  have:=hf _ (zg _ (zg _ (zg _ (zg _ (zm ..)))))
  rw[Tryz.cells4]at this
  exact this
 obtain⟨v4,e4⟩:=qf9 Tryz.underlying4 g4
 obtain rfl:=(zG e4).1
 exact⟨⟨v0,v1,v2,v3,v4⟩,rfl,⟨w1,w2⟩⟩
theorem Tryz.cells168:Tryz.prog.cellsOf 168=3:=by kernel_rfl
theorem qtt{ds:List D}(h:ShD Tryz.prog 168 ds):∃x:News,ds=x.e∧x.wf:=by
 obtain⟨hl,hf⟩:=qcI Tryz.underlying168 h
 rw[Tryz.cells168]at hl
 obtain⟨a0,a1,a2,rfl⟩:=lst3 hl
 have g0:ShD Tryz.prog 3 [a0]:=by
  have:=hf _ (zm ..)
  rw[Tryz.cells3]at this
  exact this
 obtain⟨v0,e0,w0⟩:=qa4 Tryz.underlying3 g0
 obtain rfl:=(zG e0).1
 have g1:ShD Tryz.prog 3 [a1]:=by
  have:=hf _ (zg _ (zm ..))
  rw[Tryz.cells3]at this
  exact this
 obtain⟨v1,e1,w1⟩:=qa4 Tryz.underlying3 g1
 obtain rfl:=(zG e1).1
 have g2:ShD Tryz.prog 4 [a2]:=by
  have:=hf _ (zg _ (zg _ (zm ..)))
  rw[Tryz.cells4]at this
  exact this
 obtain⟨v2,e2⟩:=qf9 Tryz.underlying4 g2
 obtain rfl:=(zG e2).1
 exact⟨⟨v0,v1,v2⟩,rfl,⟨w0,w1⟩⟩
theorem qn4{ds:List D}(h:ShD Tryz.prog 106 ds):∃xs:List Int,ds=[.sl 1 (xs.map eI)]∧(xs.length:Int)≤9223372036854775807∧∀a∈xs,(fun n=>inInt .i64 n) a:=
 qcY eI (fun n=>inInt .i64 n) Tryz.underlying106 Tryz.cells3 (fun ds h=>qa4 Tryz.underlying3 h) h
theorem Tryz.cells106:Tryz.prog.cellsOf 106=1:=by kernel_rfl
theorem Tryz.cells204:Tryz.prog.cellsOf 204=4:=by kernel_rfl
theorem qtv{ds:List D}(h:ShD Tryz.prog 204 ds):∃x:Node,ds=x.e∧x.wf:=by
 obtain⟨hl,hf⟩:=qcI Tryz.underlying204 h
 rw[Tryz.cells204]at hl
 obtain⟨a0,a1,a2,a3,rfl⟩:=lst4 hl
 have g0:ShD Tryz.prog 3 [a0]:=by
  have:=hf _ (zm ..)
  rw[Tryz.cells3]at this
  exact this
 obtain⟨v0,e0,w0⟩:=qa4 Tryz.underlying3 g0
 obtain rfl:=(zG e0).1
 have g1:ShD Tryz.prog 3 [a1]:=by
  have:=hf _ (zg _ (zm ..))
  rw[Tryz.cells3]at this
  exact this
 obtain⟨v1,e1,w1⟩:=qa4 Tryz.underlying3 g1
 obtain rfl:=(zG e1).1
 have g2:ShD Tryz.prog 3 [a2]:=by
  have:=hf _ (zg _ (zg _ (zm ..)))
  rw[Tryz.cells3]at this
  exact this
 obtain⟨v2,e2,w2⟩:=qa4 Tryz.underlying3 g2
 obtain rfl:=(zG e2).1
 have g3:ShD Tryz.prog 106 [a3]:=by
  have:=hf _ (zg _ (zg _ (zg _ (zm ..))))
  rw[Tryz.cells106]at this
  exact this
 obtain⟨v3,e3,w3⟩:=qn4 g3
 obtain rfl:=(zG e3).1
 exact⟨⟨v0,v1,v2,v3⟩,rfl,⟨w0,w1,w2,w3⟩⟩
theorem qiF{ds:List D}(h:ShD Tryz.prog 70 ds):∃xs:List Record,ds=[.sl 5 (xs.map Record.e)]∧(xs.length:Int)≤9223372036854775807∧∀a∈xs,(Record.wf) a:=
 qcY Record.e (Record.wf) Tryz.underlying70 Tryz.cells146 (fun ds h=>qtp h) h
theorem Tryz.cells70:Tryz.prog.cellsOf 70=1:=by kernel_rfl
theorem Tryz.cells160:Tryz.prog.cellsOf 160=6:=by kernel_rfl
theorem qtw{ds:List D}(h:ShD Tryz.prog 160 ds):∃x:Link,ds=x.e∧x.wf:=by
 obtain⟨hl,hf⟩:=qcI Tryz.underlying160 h
 rw[Tryz.cells160]at hl
 obtain⟨a0,a1,a2,a3,a4,a5,rfl⟩:=lst6 hl
 have g0:ShD Tryz.prog 3 [a0]:=by
  have:=hf _ (zm ..)
  rw[Tryz.cells3]at this
  exact this
 obtain⟨v0,e0,w0⟩:=qa4 Tryz.underlying3 g0
 obtain rfl:=(zG e0).1
 have g1:ShD Tryz.prog 70 [a1]:=by
  have:=hf _ (zg _ (zm ..))
  rw[Tryz.cells70]at this
  exact this
 obtain⟨v1,e1,w1⟩:=qiF g1
 obtain rfl:=(zG e1).1
 have g2:ShD Tryz.prog 3 [a2]:=by
  have:=hf _ (zg _ (zg _ (zm ..)))
  rw[Tryz.cells3]at this
  exact this
 obtain⟨v2,e2,w2⟩:=qa4 Tryz.underlying3 g2
 obtain rfl:=(zG e2).1
 have g3:ShD Tryz.prog 3 [a3]:=by
  have:=hf _ (zg _ (zg _ (zg _ (zm ..))))
  rw[Tryz.cells3]at this
  exact this
 obtain⟨v3,e3,w3⟩:=qa4 Tryz.underlying3 g3
 obtain rfl:=(zG e3).1
 have g4:ShD Tryz.prog 3 [a4]:=by
  have:=hf _ (zg _ (zg _ (zg _ (zg _ (zm ..)))))
  rw[Tryz.cells3]at this
  exact this
 obtain⟨v4,e4,w4⟩:=qa4 Tryz.underlying3 g4
 obtain rfl:=(zG e4).1
 have g5:ShD Tryz.prog 3 [a5]:=by
  have:=hf _ (zg _ (zg _ (zg _ (zg _ (zg _ (zm ..))))))
  rw[Tryz.cells3]at this
  exact this
 obtain⟨v5,e5,w5⟩:=qa4 Tryz.underlying3 g5
 obtain rfl:=(zG e5).1
 exact⟨⟨v0,v1,v2,v3,v4,v5⟩,rfl,⟨w0,w1,w2,w3,w4,w5⟩⟩
theorem qtx{ds:List D}(h:ShD Tryz.prog 22 ds):∃xs:List Node,ds=[.sl 4 (xs.map Node.e)]∧(xs.length:Int)≤9223372036854775807∧∀a∈xs,(Node.wf) a:=
 qcY Node.e (Node.wf) Tryz.underlying22 Tryz.cells204 (fun ds h=>qtv h) h
theorem Tryz.cells22:Tryz.prog.cellsOf 22=1:=by kernel_rfl
theorem Tryz.cells24:Tryz.prog.cellsOf 24=3:=by kernel_rfl
theorem qty{ds:List D}(h:ShD Tryz.prog 24 ds):∃x:Graph,ds=x.e∧x.wf:=by
 obtain⟨hl,hf⟩:=qcI Tryz.underlying24 h
 rw[Tryz.cells24]at hl
 obtain⟨a0,a1,a2,rfl⟩:=lst3 hl
 have g0:ShD Tryz.prog 22 [a0]:=by
  have:=hf _ (zm ..)
  rw[Tryz.cells22]at this
  exact this
 obtain⟨v0,e0,w0⟩:=qtx g0
 obtain rfl:=(zG e0).1
 have g1:ShD Tryz.prog 3 [a1]:=by
  have:=hf _ (zg _ (zm ..))
  rw[Tryz.cells3]at this
  exact this
 obtain⟨v1,e1,w1⟩:=qa4 Tryz.underlying3 g1
 obtain rfl:=(zG e1).1
 have g2:ShD Tryz.prog 3 [a2]:=by
  have:=hf _ (zg _ (zg _ (zm ..)))
  rw[Tryz.cells3]at this
  exact this
 obtain⟨v2,e2,w2⟩:=qa4 Tryz.underlying3 g2
 obtain rfl:=(zG e2).1
 exact⟨⟨v0,v1,v2⟩,rfl,⟨w0,w1,w2⟩⟩
theorem qtz{ds:List D}(h:ShD Tryz.prog 154 ds):∃xs:List Cell,ds=[.sl 4 (xs.map Cell.e)]∧(xs.length:Int)≤9223372036854775807∧∀a∈xs,(Cell.wf) a:=
 qcY Cell.e (Cell.wf) Tryz.underlying154 Tryz.cells245 (fun ds h=>qtq h) h
theorem Tryz.cells154:Tryz.prog.cellsOf 154=1:=by kernel_rfl
theorem qn5{ds:List D}(h:ShD Tryz.prog 57 ds):∃xs:List Bool,ds=[.sl 1 (xs.map eB)]∧(xs.length:Int)≤9223372036854775807∧∀a∈xs,(fun _=>True) a:=
 qcY eB (fun _=>True) Tryz.underlying57 Tryz.cells4 (fun ds h=>(qf9 Tryz.underlying4 h).imp fun _ h=>⟨h,trivial⟩) h
theorem Tryz.cells57:Tryz.prog.cellsOf 57=1:=by kernel_rfl
theorem qtA{ds:List D}(h:ShD Tryz.prog 155 ds):∃xs:List Done,ds=[.sl 2 (xs.map Done.e)]∧(xs.length:Int)≤9223372036854775807∧∀a∈xs,(Done.wf) a:=
 qcY Done.e (Done.wf) Tryz.underlying155 Tryz.cells247 (fun ds h=>qtr h) h
theorem Tryz.cells155:Tryz.prog.cellsOf 155=1:=by kernel_rfl
theorem Tryz.cells157:Tryz.prog.cellsOf 157=8:=by kernel_rfl
theorem qtB{ds:List D}(h:ShD Tryz.prog 157 ds):∃x:Worker,ds=x.e∧x.wf:=by
 obtain⟨hl,hf⟩:=qcI Tryz.underlying157 h
 rw[Tryz.cells157]at hl
 obtain⟨a0,a1,a2,a3,a4,a5,a6,a7,rfl⟩:=lst8 hl
 have g0:ShD Tryz.prog 70 [a0]:=by
  have:=hf _ (zm ..)
  rw[Tryz.cells70]at this
  exact this
 obtain⟨v0,e0,w0⟩:=qiF g0
 obtain rfl:=(zG e0).1
 have g1:ShD Tryz.prog 70 [a1]:=by
  have:=hf _ (zg _ (zm ..))
  rw[Tryz.cells70]at this
  exact this
 obtain⟨v1,e1,w1⟩:=qiF g1
 obtain rfl:=(zG e1).1
 have g2:ShD Tryz.prog 70 [a2]:=by
  have:=hf _ (zg _ (zg _ (zm ..)))
  rw[Tryz.cells70]at this
  exact this
 obtain⟨v2,e2,w2⟩:=qiF g2
 obtain rfl:=(zG e2).1
 have g3:ShD Tryz.prog 154 [a3]:=by
  have:=hf _ (zg _ (zg _ (zg _ (zm ..))))
  rw[Tryz.cells154]at this
  exact this
 obtain⟨v3,e3,w3⟩:=qtz g3
 obtain rfl:=(zG e3).1
 have g4:ShD Tryz.prog 106 [a4]:=by
  have:=hf _ (zg _ (zg _ (zg _ (zg _ (zm ..)))))
  rw[Tryz.cells106]at this
  exact this
 obtain⟨v4,e4,w4⟩:=qn4 g4
 obtain rfl:=(zG e4).1
 have g5:ShD Tryz.prog 57 [a5]:=by
  have:=hf _ (zg _ (zg _ (zg _ (zg _ (zg _ (zm ..))))))
  rw[Tryz.cells57]at this
  exact this
 obtain⟨v5,e5,w5⟩:=qn5 g5
 obtain rfl:=(zG e5).1
 have g6:ShD Tryz.prog 57 [a6]:=by
  have:=hf _ (zg _ (zg _ (zg _ (zg _ (zg _ (zg _ (zm ..)))))))
  rw[Tryz.cells57]at this
  exact this
 obtain⟨v6,e6,w6⟩:=qn5 g6
 obtain rfl:=(zG e6).1
 have g7:ShD Tryz.prog 155 [a7]:=by
  have:=hf _ (zg _ (zg _ (zg _ (zg _ (zg _ (zg _ (zg _ (zm ..))))))))
  rw[Tryz.cells155]at this
  exact this
 obtain⟨v7,e7,w7⟩:=qtA g7
 obtain rfl:=(zG e7).1
 exact⟨⟨v0,v1,v2,v3,v4,v5,v6,v7⟩,rfl,⟨w0,w1,w2,w3,w4,w5.1,w6.1,w7⟩⟩
theorem qtC{ds:List D}(h:ShD Tryz.prog 25 ds):∃xs:List Worker,ds=[.sl 8 (xs.map Worker.e)]∧(xs.length:Int)≤9223372036854775807∧∀a∈xs,(Worker.wf) a:=
 qcY Worker.e (Worker.wf) Tryz.underlying25 Tryz.cells157 (fun ds h=>qtB h) h
theorem Tryz.cells25:Tryz.prog.cellsOf 25=1:=by kernel_rfl
theorem qtD{ds:List D}(h:ShD Tryz.prog 26 ds):∃xs:List Link,ds=[.sl 6 (xs.map Link.e)]∧(xs.length:Int)≤9223372036854775807∧∀a∈xs,(Link.wf) a:=
 qcY Link.e (Link.wf) Tryz.underlying26 Tryz.cells160 (fun ds h=>qtw h) h
theorem Tryz.cells26:Tryz.prog.cellsOf 26=1:=by kernel_rfl
theorem qtE{ds:List D}(h:ShD Tryz.prog 27 ds):∃xs:List Token,ds=[.sl 5 (xs.map Token.e)]∧(xs.length:Int)≤9223372036854775807∧∀a∈xs,(Token.wf) a:=
 qcY Token.e (Token.wf) Tryz.underlying27 Tryz.cells166 (fun ds h=>qts h) h
theorem Tryz.cells27:Tryz.prog.cellsOf 27=1:=by kernel_rfl
theorem qtF{ds:List D}(h:ShD Tryz.prog 28 ds):∃xs:List News,ds=[.sl 3 (xs.map News.e)]∧(xs.length:Int)≤9223372036854775807∧∀a∈xs,(News.wf) a:=
 qcY News.e (News.wf) Tryz.underlying28 Tryz.cells168 (fun ds h=>qtt h) h
theorem Tryz.cells28:Tryz.prog.cellsOf 28=1:=by kernel_rfl
theorem Tryz.cells30:Tryz.prog.cellsOf 30=7:=by kernel_rfl
theorem qtG{ds:List D}(h:ShD Tryz.prog 30 ds):∃x:Cluster,ds=x.e∧x.wf:=by
 obtain⟨hl,hf⟩:=qcI Tryz.underlying30 h
 rw[Tryz.cells30]at hl
 obtain⟨a0,a1,a2,a3,a4,a5,a6,rfl⟩:=lst7 hl
 have g0:ShD Tryz.prog 24 [a0,a1,a2]:=by
  have:=hf _ (zm ..)
  rw[Tryz.cells24]at this
  exact this
 obtain⟨v0,e0,w0⟩:=qty g0
 simp only[Graph.e,zbr,and_true]at e0
 obtain⟨rfl,rfl,rfl⟩:=e0
 have g1:ShD Tryz.prog 25 [a3]:=by
  have:=hf _ (zg _ (zm ..))
  rw[Tryz.cells25]at this
  exact this
 obtain⟨v1,e1,w1⟩:=qtC g1
 obtain rfl:=(zG e1).1
 have g2:ShD Tryz.prog 26 [a4]:=by
  have:=hf _ (zg _ (zg _ (zm ..)))
  rw[Tryz.cells26]at this
  exact this
 obtain⟨v2,e2,w2⟩:=qtD g2
 obtain rfl:=(zG e2).1
 have g3:ShD Tryz.prog 27 [a5]:=by
  have:=hf _ (zg _ (zg _ (zg _ (zm ..))))
  rw[Tryz.cells27]at this
  exact this
 obtain⟨v3,e3,w3⟩:=qtE g3
 obtain rfl:=(zG e3).1
 have g4:ShD Tryz.prog 28 [a6]:=by
  have:=hf _ (zg _ (zg _ (zg _ (zg _ (zm ..)))))
  rw[Tryz.cells28]at this
  exact this
 obtain⟨v4,e4,w4⟩:=qtF g4
 obtain rfl:=(zG e4).1
 exact⟨⟨v0,v1,v2,v3,v4⟩,rfl,⟨w0,w1,w2,w3,w4⟩⟩
theorem qgZ{ad:AD}(h:ShA Tryz.prog 30 ad):∃x:Cluster,ad=.agg x.e∧x.wf:=by
 cases ad with
 | one d=>have:=h.2;simp[aggT,Tryz.underlying30]at this
 | agg ds=>
  obtain⟨x,rfl,hx⟩:=qtG h.1
  exact⟨x,rfl,hx⟩
end Go.Proofs.YtdanpadojemjeaaGreat
namespace Go.Proofs.YtdanpadojemjeaaGreat
open Go.ChangeShapes Go.WideShapes Go.ChangeAt Go.RowKit Go.Joins Go.Sx
theorem both{a b:Bool}(h:a=true)(k:b=true):(a&&b)=true:=by rw[h,k];rfl
theorem qg0{P:Program}{f:FuncId}{fn:Func}{s:ChangeSpec}{c:OpenClaim}
  (g1:c.wf (OpenSpec.ofChange s)=true) (g2:laidOutB P=true) (g3:mapsRowed P=true)
  (g4:(fn.params.all (P.readableRec ·)&&namedTie P c.named s.vars&&(c.stops==[])&&(P.stops==[])&&(c.knobs==[])&&(P.stopKnobs==[]))=true)
  (g5:(c.inPlace==P.inPlace f)=true) (g6:(c.unfollowed==P.unfollowed f)=true) (g7:(c.recurses==P.recurses f)=true) (g8:(c.named==P.varsNamed f)=true)
  (g9:((c.maps==(fn.params.toList++s.plain.varTypes P).any (P.mapsRec ·))&&(c.ifaces==(fn.params.toList++s.plain.varTypes P).any (P.ifacesRec ·))&&(c.mapsOut==P.mapsAmong fn.resultTypes.toList))=true)
  (g10:((c.loops==(fn.params.toList++s.plain.varTypes P).any (P.loopsFrom ·))&&(c.wideKeys==(fn.params.toList++s.plain.varTypes P++fn.resultTypes.toList).any (P.wideKeysFrom ·)))=true)
  (g11:(s.vars.all (P.varReadable ·)&&fn.resultTypes.all (fun t=>P.readableRec t&&decide (t<P.types.size))&&(c.ifacesOut==fn.resultTypes.toList.any (P.ifacesRec ·))&&(c.loopsOut==fn.resultTypes.toList.any (P.loopsFrom ·)))=true)
  (g12:(c.plainKeys==P.plainKeys)=true) (g13:(c.shortTexts.isNone&&P.stopsHeard)=true)
  (g14:P.mayEnter=true) (g15:(c.lifted==P.liftsFinal)=true) (g16:(P.make==some c.make)=true)
  (g17:((c.kinds==(if c.domain.isEmpty then [] else fn.params.toList.map fun t=>match P.underlying t with | some (.int k)=>some k | _=>none))&&(c.pinned==c.pinnedBy))=true)
  (g18:((c.veiled==(fn.params.toList++s.plain.varTypes P++fn.resultTypes.toList).any (P.veiledRec ·))&&c.veiledFits P fn.params.toList (fn.params.toList++s.plain.varTypes P++fn.resultTypes.toList))=true):
  joinedFacts P f fn s c=true:=by
 rw[zj,zj,zj,zj,zj]at g4
 rw[zj,zj]at g9
 rw[zj]at g10 g13 g17 g18
 rw[zj,zj,zj]at g11
 exact (both (both (both (both (both (both (both (both (both (both (both (both (both (both (both (both (both (both (both (both (both (both (both (both (both (both (both (both (both (both (both g1 g2) g3) g4.1.1.1.1.1) g4.1.1.1.1.2) g4.1.1.1.2) g4.1.1.2) g4.1.2) g4.2) g5) g6) g7) g8) g9.1.1) g9.1.2) g9.2) g10.1) g10.2) g11.1.1.1) g11.1.1.2) g11.1.2) g11.2) g12) g13.1) g13.2) g14) g15) g16) g17.1) g17.2) g18.1) g18.2)
theorem qg1:mapsRowed Tryz.prog=true:=by kernel_rfl
theorem qg2:Tryz.prog.plainKeys=true:=by kernel_rfl
theorem qg3:Tryz.prog.mayEnter=true:=by kernel_rfl
theorem qg4:Tryz.prog.liftsFinal=false:=by kernel_rfl
theorem qg5:Tryz.prog.make=some .cut:=by kernel_rfl
end Go.Proofs.YtdanpadojemjeaaGreat
