/- From a reading of an argument to a structure (printed by gentypes.py) -/
import Derived.Test.YtdanpadojemjeaaGreatT1
import Derived.Test.YtdanpadojemjeaaGreatR20
set_option linter.unusedVariables false
set_option linter.unusedSimpArgs false
namespace Go.Proofs.YtdanpadojemjeaaGreat
open Go.Sx Go.RowKit
theorem Tryz.own:ownKnob Tryz.prog.godebug=none:=by kernel_rfl
theorem Tryz.laidOut:laidOutB Tryz.prog=true:=by kernel_rfl
theorem qa4{P:Program}{t:TypeId}{ds:List D}(hu:P.underlying t=some (.int .i64))(h:ShD P t ds):∃n,ds=[I n]∧inInt .i64 n:=by
 have h2:∃n,ds=[.v (.int .i64 n)]∧(Lit.int .i64 n).wf=true:=by cases h<;>simp_all
 obtain⟨n,e,hw⟩:=h2
 refine⟨n,e,?_⟩
 simp[Lit.wf]at hw
 have h3:IntKind.i64.min=-9223372036854775808:=rfl
 rw[h3]at hw
 exact hw
theorem qfJ{P:Program}{t:TypeId}{ds:List D}(hu:P.underlying t=some .bool)(h:ShD P t ds):∃b,ds=[B b]:=by
 cases h<;>simp_all
theorem qry{P:Program}{t e:TypeId}{ds:List D}(hu:P.underlying t=some (.slice e))(h:ShD P t ds):∃es,ds=[.sl (P.cellsOf e) es]∧es.length≤maxLen∧∀x∈es,ShD P e x:=by
 cases h<;>simp_all
theorem qcy{P:Program}{t:TypeId}{fs:Array Field}{ds:List D}(hu:P.underlying t=some (.struct fs))(h:ShD P t ds):ds.length=P.cellsOf t∧∀f∈fs.toList,ShD P f.type ((ds.drop f.offset).take (P.cellsOf f.type)):=by
 cases h<;>simp_all
theorem qmN{α:Type}(f:α→List D)(W:α→Prop):∀{es:List (List D)},(∀ds∈es,∃a,ds=f a∧W a)→∃xs:List α,es=xs.map f∧∀a∈xs,W a
 | [],_=>⟨[],rfl,by simp⟩
 | ds::es,h=>by
  obtain⟨a,rfl,ha⟩:=h ds (by simp)
  obtain⟨xs,rfl,hxs⟩:=qmN f W (es:=es) fun x hx=>h x (by simp[hx])
  refine⟨a::xs,rfl,fun b hb=>?_⟩
  rcases zL.1 hb with rfl | hb
  ·exact ha
  ·exact hxs b hb
theorem qc2{α:Type}(f:α→List D)(W:α→Prop){P:Program}{t e:TypeId}{k:Nat}(hu:P.underlying t=some (.slice e))(hk:P.cellsOf e=k)(hel:∀ds,ShD P e ds→∃a,ds=f a∧W a){ds:List D}(h:ShD P t ds):
  ∃xs:List α,ds=[.sl k (xs.map f)]∧(xs.length:Int)≤9223372036854775807∧∀a∈xs,W a:=by
 obtain⟨es,rfl,hl,he⟩:=qry hu h
 obtain⟨xs,rfl,hxs⟩:=qmN f W fun ds hds=>hel ds (he ds hds)
 refine⟨xs,by rw[hk],?_,hxs⟩
 have hm:maxLen=9223372036854775807:=rfl
 rw[zb]at hl
 omega
theorem lst2{α:Type}{l:List α}(h:l.length=2):∃a0 a1,l=[a0,a1]:=by
 match l,h with
 | [a0,a1],_=>exact⟨a0,a1,rfl⟩
theorem lst3{α:Type}{l:List α}(h:l.length=3):∃a0 a1 a2,l=[a0,a1,a2]:=by
 match l,h with
 | [a0,a1,a2],_=>exact⟨a0,a1,a2,rfl⟩
theorem lst4{α:Type}{l:List α}(h:l.length=4):∃a0 a1 a2 a3,l=[a0,a1,a2,a3]:=by
 match l,h with
 | [a0,a1,a2,a3],_=>exact⟨a0,a1,a2,a3,rfl⟩
theorem lst5{α:Type}{l:List α}(h:l.length=5):∃a0 a1 a2 a3 a4,l=[a0,a1,a2,a3,a4]:=by
 match l,h with
 | [a0,a1,a2,a3,a4],_=>exact⟨a0,a1,a2,a3,a4,rfl⟩
theorem lst6{α:Type}{l:List α}(h:l.length=6):∃a0 a1 a2 a3 a4 a5,l=[a0,a1,a2,a3,a4,a5]:=by
 match l,h with
 | [a0,a1,a2,a3,a4,a5],_=>exact⟨a0,a1,a2,a3,a4,a5,rfl⟩
theorem lst7{α:Type}{l:List α}(h:l.length=7):∃a0 a1 a2 a3 a4 a5 a6,l=[a0,a1,a2,a3,a4,a5,a6]:=by
 match l,h with
 | [a0,a1,a2,a3,a4,a5,a6],_=>exact⟨a0,a1,a2,a3,a4,a5,a6,rfl⟩
theorem lst8{α:Type}{l:List α}(h:l.length=8):∃a0 a1 a2 a3 a4 a5 a6 a7,l=[a0,a1,a2,a3,a4,a5,a6,a7]:=by
 match l,h with
 | [a0,a1,a2,a3,a4,a5,a6,a7],_=>exact⟨a0,a1,a2,a3,a4,a5,a6,a7,rfl⟩
theorem Tryz.cells3:Tryz.prog.cellsOf 3=1:=by kernel_rfl
theorem Tryz.cells4:Tryz.prog.cellsOf 4=1:=by kernel_rfl
theorem Tryz.cells144:Tryz.prog.cellsOf 144=2:=by kernel_rfl
theorem qrz{ds:List D}(h:ShD Tryz.prog 144 ds):∃x:Stamp,ds=x.e∧x.wf:=by
 obtain⟨hl,hf⟩:=qcy Tryz.underlying144 h
 rw[Tryz.cells144]at hl
 obtain⟨a0,a1,rfl⟩:=lst2 hl
 have g0:ShD Tryz.prog 3 [a0]:=by
  have:=hf _ (zl ..)
  rw[Tryz.cells3]at this
  exact this
 obtain⟨v0,e0,w0⟩:=qa4 Tryz.underlying3 g0
 obtain rfl:=(zD e0).1
 have g1:ShD Tryz.prog 3 [a1]:=by
  have:=hf _ (zg _ (zl ..))
  rw[Tryz.cells3]at this
  exact this
 obtain⟨v1,e1,w1⟩:=qa4 Tryz.underlying3 g1
 obtain rfl:=(zD e1).1
 exact⟨⟨v0,v1⟩,rfl,⟨w0,w1⟩⟩
theorem Tryz.cells146:Tryz.prog.cellsOf 146=5:=by kernel_rfl
theorem qrA{ds:List D}(h:ShD Tryz.prog 146 ds):∃x:Record,ds=x.e∧x.wf:=by
 obtain⟨hl,hf⟩:=qcy Tryz.underlying146 h
 rw[Tryz.cells146]at hl
 obtain⟨a0,a1,a2,a3,a4,rfl⟩:=lst5 hl
 have g0:ShD Tryz.prog 3 [a0]:=by
  have:=hf _ (zl ..)
  rw[Tryz.cells3]at this
  exact this
 obtain⟨v0,e0,w0⟩:=qa4 Tryz.underlying3 g0
 obtain rfl:=(zD e0).1
 have g1:ShD Tryz.prog 144 [a1,a2]:=by
  have:=hf _ (zg _ (zl ..))
  rw[Tryz.cells144]at this
  exact this
 obtain⟨v1,e1,w1⟩:=qrz g1
 simp only[Stamp.e,zbq,and_true]at e1
 obtain⟨rfl,rfl⟩:=e1
 have g2:ShD Tryz.prog 3 [a3]:=by
  have:=hf _ (zg _ (zg _ (zl ..)))
  rw[Tryz.cells3]at this
  exact this
 obtain⟨v2,e2,w2⟩:=qa4 Tryz.underlying3 g2
 obtain rfl:=(zD e2).1
 have g3:ShD Tryz.prog 3 [a4]:=by
  have:=hf _ (zg _ (zg _ (zg _ (zl ..))))
  rw[Tryz.cells3]at this
  exact this
 obtain⟨v3,e3,w3⟩:=qa4 Tryz.underlying3 g3
 obtain rfl:=(zD e3).1
 exact⟨⟨v0,v1,v2,v3⟩,rfl,⟨w0,w1,w2,w3⟩⟩
theorem Tryz.cells245:Tryz.prog.cellsOf 245=4:=by kernel_rfl
theorem qrB{ds:List D}(h:ShD Tryz.prog 245 ds):∃x:Cell,ds=x.e∧x.wf:=by
 obtain⟨hl,hf⟩:=qcy Tryz.underlying245 h
 rw[Tryz.cells245]at hl
 obtain⟨a0,a1,a2,a3,rfl⟩:=lst4 hl
 have g0:ShD Tryz.prog 3 [a0]:=by
  have:=hf _ (zl ..)
  rw[Tryz.cells3]at this
  exact this
 obtain⟨v0,e0,w0⟩:=qa4 Tryz.underlying3 g0
 obtain rfl:=(zD e0).1
 have g1:ShD Tryz.prog 3 [a1]:=by
  have:=hf _ (zg _ (zl ..))
  rw[Tryz.cells3]at this
  exact this
 obtain⟨v1,e1,w1⟩:=qa4 Tryz.underlying3 g1
 obtain rfl:=(zD e1).1
 have g2:ShD Tryz.prog 3 [a2]:=by
  have:=hf _ (zg _ (zg _ (zl ..)))
  rw[Tryz.cells3]at this
  exact this
 obtain⟨v2,e2,w2⟩:=qa4 Tryz.underlying3 g2
 obtain rfl:=(zD e2).1
 have g3:ShD Tryz.prog 3 [a3]:=by
  have:=hf _ (zg _ (zg _ (zg _ (zl ..))))
  rw[Tryz.cells3]at this
  exact this
 obtain⟨v3,e3,w3⟩:=qa4 Tryz.underlying3 g3
 obtain rfl:=(zD e3).1
 exact⟨⟨v0,v1,v2,v3⟩,rfl,⟨w0,w1,w2,w3⟩⟩
theorem Tryz.cells247:Tryz.prog.cellsOf 247=2:=by kernel_rfl
theorem qrC{ds:List D}(h:ShD Tryz.prog 247 ds):∃x:Done,ds=x.e∧x.wf:=by
 obtain⟨hl,hf⟩:=qcy Tryz.underlying247 h
 rw[Tryz.cells247]at hl
 obtain⟨a0,a1,rfl⟩:=lst2 hl
 have g0:ShD Tryz.prog 3 [a0]:=by
  have:=hf _ (zl ..)
  rw[Tryz.cells3]at this
  exact this
 obtain⟨v0,e0,w0⟩:=qa4 Tryz.underlying3 g0
 obtain rfl:=(zD e0).1
 have g1:ShD Tryz.prog 4 [a1]:=by
  have:=hf _ (zg _ (zl ..))
  rw[Tryz.cells4]at this
  exact this
 obtain⟨v1,e1⟩:=qfJ Tryz.underlying4 g1
 obtain rfl:=(zD e1).1
 exact⟨⟨v0,v1⟩,rfl,⟨w0⟩⟩
theorem Tryz.cells166:Tryz.prog.cellsOf 166=5:=by kernel_rfl
theorem qrD{ds:List D}(h:ShD Tryz.prog 166 ds):∃x:Token,ds=x.e∧x.wf:=by
 obtain⟨hl,hf⟩:=qcy Tryz.underlying166 h
 rw[Tryz.cells166]at hl
 obtain⟨a0,a1,a2,a3,a4,rfl⟩:=lst5 hl
 have g0:ShD Tryz.prog 4 [a0]:=by
  have:=hf _ (zl ..)
  rw[Tryz.cells4]at this
  exact this
 obtain⟨v0,e0⟩:=qfJ Tryz.underlying4 g0
 obtain rfl:=(zD e0).1
 have g1:ShD Tryz.prog 3 [a1]:=by
  have:=hf _ (zg _ (zl ..))
  rw[Tryz.cells3]at this
  exact this
 obtain⟨v1,e1,w1⟩:=qa4 Tryz.underlying3 g1
 obtain rfl:=(zD e1).1
 have g2:ShD Tryz.prog 3 [a2]:=by
  have:=hf _ (zg _ (zg _ (zl ..)))
  rw[Tryz.cells3]at this
  exact this
 obtain⟨v2,e2,w2⟩:=qa4 Tryz.underlying3 g2
 obtain rfl:=(zD e2).1
 have g3:ShD Tryz.prog 4 [a3]:=by
  have:=hf _ (zg _ (zg _ (zg _ (zl ..))))
  rw[Tryz.cells4]at this
  exact this
 obtain⟨v3,e3⟩:=qfJ Tryz.underlying4 g3
 obtain rfl:=(zD e3).1
 have g4:ShD Tryz.prog 4 [a4]:=by
  have:=hf _ (zg _ (zg _ (zg _ (zg _ (zl ..)))))
  rw[Tryz.cells4]at this
  exact this
 obtain⟨v4,e4⟩:=qfJ Tryz.underlying4 g4
 obtain rfl:=(zD e4).1
 exact⟨⟨v0,v1,v2,v3,v4⟩,rfl,⟨w1,w2⟩⟩
theorem Tryz.cells168:Tryz.prog.cellsOf 168=3:=by kernel_rfl
theorem qrE{ds:List D}(h:ShD Tryz.prog 168 ds):∃x:News,ds=x.e∧x.wf:=by
 obtain⟨hl,hf⟩:=qcy Tryz.underlying168 h
 rw[Tryz.cells168]at hl
 obtain⟨a0,a1,a2,rfl⟩:=lst3 hl
 have g0:ShD Tryz.prog 3 [a0]:=by
  have:=hf _ (zl ..)
  rw[Tryz.cells3]at this
  exact this
 obtain⟨v0,e0,w0⟩:=qa4 Tryz.underlying3 g0
 obtain rfl:=(zD e0).1
 have g1:ShD Tryz.prog 3 [a1]:=by
  have:=hf _ (zg _ (zl ..))
  rw[Tryz.cells3]at this
  exact this
 obtain⟨v1,e1,w1⟩:=qa4 Tryz.underlying3 g1
 obtain rfl:=(zD e1).1
 have g2:ShD Tryz.prog 4 [a2]:=by
  have:=hf _ (zg _ (zg _ (zl ..)))
  rw[Tryz.cells4]at this
  exact this
 obtain⟨v2,e2⟩:=qfJ Tryz.underlying4 g2
 obtain rfl:=(zD e2).1
 exact⟨⟨v0,v1,v2⟩,rfl,⟨w0,w1⟩⟩
theorem Tryz.cells50:Tryz.prog.cellsOf 50=3:=by kernel_rfl
theorem qrF{ds:List D}(h:ShD Tryz.prog 50 ds):∃x:Pick,ds=x.e∧x.wf:=by
 obtain⟨hl,hf⟩:=qcy Tryz.underlying50 h
 rw[Tryz.cells50]at hl
 obtain⟨a0,a1,a2,rfl⟩:=lst3 hl
 have g0:ShD Tryz.prog 3 [a0]:=by
  have:=hf _ (zl ..)
  rw[Tryz.cells3]at this
  exact this
 obtain⟨v0,e0,w0⟩:=qa4 Tryz.underlying3 g0
 obtain rfl:=(zD e0).1
 have g1:ShD Tryz.prog 3 [a1]:=by
  have:=hf _ (zg _ (zl ..))
  rw[Tryz.cells3]at this
  exact this
 obtain⟨v1,e1,w1⟩:=qa4 Tryz.underlying3 g1
 obtain rfl:=(zD e1).1
 have g2:ShD Tryz.prog 3 [a2]:=by
  have:=hf _ (zg _ (zg _ (zl ..)))
  rw[Tryz.cells3]at this
  exact this
 obtain⟨v2,e2,w2⟩:=qa4 Tryz.underlying3 g2
 obtain rfl:=(zD e2).1
 exact⟨⟨v0,v1,v2⟩,rfl,⟨w0,w1,w2⟩⟩
theorem qrG{ad:AD}(h:ShA Tryz.prog 50 ad):∃x:Pick,ad=.agg x.e∧x.wf:=by
 cases ad with
 | one d=>have:=h.2;simp[aggT,Tryz.underlying50]at this
 | agg ds=>
  obtain⟨x,rfl,hx⟩:=qrF h.1
  exact⟨x,rfl,hx⟩
theorem qmO{ds:List D}(h:ShD Tryz.prog 106 ds):∃xs:List Int,ds=[.sl 1 (xs.map eI)]∧(xs.length:Int)≤9223372036854775807∧∀a∈xs,(fun n=>inInt .i64 n) a:=
 qc2 eI (fun n=>inInt .i64 n) Tryz.underlying106 Tryz.cells3 (fun ds h=>qa4 Tryz.underlying3 h) h
theorem Tryz.cells106:Tryz.prog.cellsOf 106=1:=by kernel_rfl
theorem Tryz.cells204:Tryz.prog.cellsOf 204=4:=by kernel_rfl
theorem qrH{ds:List D}(h:ShD Tryz.prog 204 ds):∃x:Node,ds=x.e∧x.wf:=by
 obtain⟨hl,hf⟩:=qcy Tryz.underlying204 h
 rw[Tryz.cells204]at hl
 obtain⟨a0,a1,a2,a3,rfl⟩:=lst4 hl
 have g0:ShD Tryz.prog 3 [a0]:=by
  have:=hf _ (zl ..)
  rw[Tryz.cells3]at this
  exact this
 obtain⟨v0,e0,w0⟩:=qa4 Tryz.underlying3 g0
 obtain rfl:=(zD e0).1
 have g1:ShD Tryz.prog 3 [a1]:=by
  have:=hf _ (zg _ (zl ..))
  rw[Tryz.cells3]at this
  exact this
 obtain⟨v1,e1,w1⟩:=qa4 Tryz.underlying3 g1
 obtain rfl:=(zD e1).1
 have g2:ShD Tryz.prog 3 [a2]:=by
  have:=hf _ (zg _ (zg _ (zl ..)))
  rw[Tryz.cells3]at this
  exact this
 obtain⟨v2,e2,w2⟩:=qa4 Tryz.underlying3 g2
 obtain rfl:=(zD e2).1
 have g3:ShD Tryz.prog 106 [a3]:=by
  have:=hf _ (zg _ (zg _ (zg _ (zl ..))))
  rw[Tryz.cells106]at this
  exact this
 obtain⟨v3,e3,w3⟩:=qmO g3
 obtain rfl:=(zD e3).1
 exact⟨⟨v0,v1,v2,v3⟩,rfl,⟨w0,w1,w2,w3⟩⟩
theorem qhP{ds:List D}(h:ShD Tryz.prog 70 ds):∃xs:List Record,ds=[.sl 5 (xs.map Record.e)]∧(xs.length:Int)≤9223372036854775807∧∀a∈xs,(Record.wf) a:=
 qc2 Record.e (Record.wf) Tryz.underlying70 Tryz.cells146 (fun ds h=>qrA h) h
theorem Tryz.cells70:Tryz.prog.cellsOf 70=1:=by kernel_rfl
theorem Tryz.cells160:Tryz.prog.cellsOf 160=6:=by kernel_rfl
theorem qrI{ds:List D}(h:ShD Tryz.prog 160 ds):∃x:Link,ds=x.e∧x.wf:=by
 obtain⟨hl,hf⟩:=qcy Tryz.underlying160 h
 rw[Tryz.cells160]at hl
 obtain⟨a0,a1,a2,a3,a4,a5,rfl⟩:=lst6 hl
 have g0:ShD Tryz.prog 3 [a0]:=by
  have:=hf _ (zl ..)
  rw[Tryz.cells3]at this
  exact this
 obtain⟨v0,e0,w0⟩:=qa4 Tryz.underlying3 g0
 obtain rfl:=(zD e0).1
 have g1:ShD Tryz.prog 70 [a1]:=by
  have:=hf _ (zg _ (zl ..))
  rw[Tryz.cells70]at this
  exact this
 obtain⟨v1,e1,w1⟩:=qhP g1
 obtain rfl:=(zD e1).1
 have g2:ShD Tryz.prog 3 [a2]:=by
  have:=hf _ (zg _ (zg _ (zl ..)))
  rw[Tryz.cells3]at this
  exact this
 obtain⟨v2,e2,w2⟩:=qa4 Tryz.underlying3 g2
 obtain rfl:=(zD e2).1
 have g3:ShD Tryz.prog 3 [a3]:=by
  have:=hf _ (zg _ (zg _ (zg _ (zl ..))))
  rw[Tryz.cells3]at this
  exact this
 obtain⟨v3,e3,w3⟩:=qa4 Tryz.underlying3 g3
 obtain rfl:=(zD e3).1
 have g4:ShD Tryz.prog 3 [a4]:=by
  have:=hf _ (zg _ (zg _ (zg _ (zg _ (zl ..)))))
  rw[Tryz.cells3]at this
  exact this
 obtain⟨v4,e4,w4⟩:=qa4 Tryz.underlying3 g4
 obtain rfl:=(zD e4).1
 have g5:ShD Tryz.prog 3 [a5]:=by
  have:=hf _ (zg _ (zg _ (zg _ (zg _ (zg _ (zl ..))))))
  rw[Tryz.cells3]at this
  exact this
 obtain⟨v5,e5,w5⟩:=qa4 Tryz.underlying3 g5
 obtain rfl:=(zD e5).1
 exact⟨⟨v0,v1,v2,v3,v4,v5⟩,rfl,⟨w0,w1,w2,w3,w4,w5⟩⟩
theorem qrJ{ds:List D}(h:ShD Tryz.prog 22 ds):∃xs:List Node,ds=[.sl 4 (xs.map Node.e)]∧(xs.length:Int)≤9223372036854775807∧∀a∈xs,(Node.wf) a:=
 qc2 Node.e (Node.wf) Tryz.underlying22 Tryz.cells204 (fun ds h=>qrH h) h
theorem Tryz.cells22:Tryz.prog.cellsOf 22=1:=by kernel_rfl
theorem Tryz.cells24:Tryz.prog.cellsOf 24=3:=by kernel_rfl
theorem qrK{ds:List D}(h:ShD Tryz.prog 24 ds):∃x:Graph,ds=x.e∧x.wf:=by
 obtain⟨hl,hf⟩:=qcy Tryz.underlying24 h
 rw[Tryz.cells24]at hl
 obtain⟨a0,a1,a2,rfl⟩:=lst3 hl
 have g0:ShD Tryz.prog 22 [a0]:=by
  have:=hf _ (zl ..)
  rw[Tryz.cells22]at this
  exact this
 obtain⟨v0,e0,w0⟩:=qrJ g0
 obtain rfl:=(zD e0).1
 have g1:ShD Tryz.prog 3 [a1]:=by
  have:=hf _ (zg _ (zl ..))
  rw[Tryz.cells3]at this
  exact this
 obtain⟨v1,e1,w1⟩:=qa4 Tryz.underlying3 g1
 obtain rfl:=(zD e1).1
 have g2:ShD Tryz.prog 3 [a2]:=by
  have:=hf _ (zg _ (zg _ (zl ..)))
  rw[Tryz.cells3]at this
  exact this
 obtain⟨v2,e2,w2⟩:=qa4 Tryz.underlying3 g2
 obtain rfl:=(zD e2).1
 exact⟨⟨v0,v1,v2⟩,rfl,⟨w0,w1,w2⟩⟩
theorem qrL{ds:List D}(h:ShD Tryz.prog 154 ds):∃xs:List Cell,ds=[.sl 4 (xs.map Cell.e)]∧(xs.length:Int)≤9223372036854775807∧∀a∈xs,(Cell.wf) a:=
 qc2 Cell.e (Cell.wf) Tryz.underlying154 Tryz.cells245 (fun ds h=>qrB h) h
theorem Tryz.cells154:Tryz.prog.cellsOf 154=1:=by kernel_rfl
theorem qmP{ds:List D}(h:ShD Tryz.prog 57 ds):∃xs:List Bool,ds=[.sl 1 (xs.map eB)]∧(xs.length:Int)≤9223372036854775807∧∀a∈xs,(fun _=>True) a:=
 qc2 eB (fun _=>True) Tryz.underlying57 Tryz.cells4 (fun ds h=>(qfJ Tryz.underlying4 h).imp fun _ h=>⟨h,trivial⟩) h
theorem Tryz.cells57:Tryz.prog.cellsOf 57=1:=by kernel_rfl
theorem qrM{ds:List D}(h:ShD Tryz.prog 155 ds):∃xs:List Done,ds=[.sl 2 (xs.map Done.e)]∧(xs.length:Int)≤9223372036854775807∧∀a∈xs,(Done.wf) a:=
 qc2 Done.e (Done.wf) Tryz.underlying155 Tryz.cells247 (fun ds h=>qrC h) h
theorem Tryz.cells155:Tryz.prog.cellsOf 155=1:=by kernel_rfl
theorem Tryz.cells157:Tryz.prog.cellsOf 157=8:=by kernel_rfl
theorem qrN{ds:List D}(h:ShD Tryz.prog 157 ds):∃x:Worker,ds=x.e∧x.wf:=by
 obtain⟨hl,hf⟩:=qcy Tryz.underlying157 h
 rw[Tryz.cells157]at hl
 obtain⟨a0,a1,a2,a3,a4,a5,a6,a7,rfl⟩:=lst8 hl
 have g0:ShD Tryz.prog 70 [a0]:=by
  have:=hf _ (zl ..)
  rw[Tryz.cells70]at this
  exact this
 obtain⟨v0,e0,w0⟩:=qhP g0
 obtain rfl:=(zD e0).1
 have g1:ShD Tryz.prog 70 [a1]:=by
  have:=hf _ (zg _ (zl ..))
  rw[Tryz.cells70]at this
  exact this
 obtain⟨v1,e1,w1⟩:=qhP g1
 obtain rfl:=(zD e1).1
 have g2:ShD Tryz.prog 70 [a2]:=by
  have:=hf _ (zg _ (zg _ (zl ..)))
  rw[Tryz.cells70]at this
  exact this
 obtain⟨v2,e2,w2⟩:=qhP g2
 obtain rfl:=(zD e2).1
 have g3:ShD Tryz.prog 154 [a3]:=by
  have:=hf _ (zg _ (zg _ (zg _ (zl ..))))
  rw[Tryz.cells154]at this
  exact this
 obtain⟨v3,e3,w3⟩:=qrL g3
 obtain rfl:=(zD e3).1
 have g4:ShD Tryz.prog 106 [a4]:=by
  have:=hf _ (zg _ (zg _ (zg _ (zg _ (zl ..)))))
  rw[Tryz.cells106]at this
  exact this
 obtain⟨v4,e4,w4⟩:=qmO g4
 obtain rfl:=(zD e4).1
 have g5:ShD Tryz.prog 57 [a5]:=by
  have:=hf _ (zg _ (zg _ (zg _ (zg _ (zg _ (zl ..))))))
  rw[Tryz.cells57]at this
  exact this
 obtain⟨v5,e5,w5⟩:=qmP g5
 obtain rfl:=(zD e5).1
 have g6:ShD Tryz.prog 57 [a6]:=by
  have:=hf _ (zg _ (zg _ (zg _ (zg _ (zg _ (zg _ (zl ..)))))))
  rw[Tryz.cells57]at this
  exact this
 obtain⟨v6,e6,w6⟩:=qmP g6
 obtain rfl:=(zD e6).1
 have g7:ShD Tryz.prog 155 [a7]:=by
  have:=hf _ (zg _ (zg _ (zg _ (zg _ (zg _ (zg _ (zg _ (zl ..))))))))
  rw[Tryz.cells155]at this
  exact this
 obtain⟨v7,e7,w7⟩:=qrM g7
 obtain rfl:=(zD e7).1
 exact⟨⟨v0,v1,v2,v3,v4,v5,v6,v7⟩,rfl,⟨w0,w1,w2,w3,w4,w5.1,w6.1,w7⟩⟩
theorem qrO{ds:List D}(h:ShD Tryz.prog 25 ds):∃xs:List Worker,ds=[.sl 8 (xs.map Worker.e)]∧(xs.length:Int)≤9223372036854775807∧∀a∈xs,(Worker.wf) a:=
 qc2 Worker.e (Worker.wf) Tryz.underlying25 Tryz.cells157 (fun ds h=>qrN h) h
theorem Tryz.cells25:Tryz.prog.cellsOf 25=1:=by kernel_rfl
theorem qrP{ds:List D}(h:ShD Tryz.prog 26 ds):∃xs:List Link,ds=[.sl 6 (xs.map Link.e)]∧(xs.length:Int)≤9223372036854775807∧∀a∈xs,(Link.wf) a:=
 qc2 Link.e (Link.wf) Tryz.underlying26 Tryz.cells160 (fun ds h=>qrI h) h
theorem Tryz.cells26:Tryz.prog.cellsOf 26=1:=by kernel_rfl
theorem qrQ{ds:List D}(h:ShD Tryz.prog 27 ds):∃xs:List Token,ds=[.sl 5 (xs.map Token.e)]∧(xs.length:Int)≤9223372036854775807∧∀a∈xs,(Token.wf) a:=
 qc2 Token.e (Token.wf) Tryz.underlying27 Tryz.cells166 (fun ds h=>qrD h) h
theorem Tryz.cells27:Tryz.prog.cellsOf 27=1:=by kernel_rfl
theorem qrR{ds:List D}(h:ShD Tryz.prog 28 ds):∃xs:List News,ds=[.sl 3 (xs.map News.e)]∧(xs.length:Int)≤9223372036854775807∧∀a∈xs,(News.wf) a:=
 qc2 News.e (News.wf) Tryz.underlying28 Tryz.cells168 (fun ds h=>qrE h) h
theorem Tryz.cells28:Tryz.prog.cellsOf 28=1:=by kernel_rfl
theorem Tryz.cells30:Tryz.prog.cellsOf 30=7:=by kernel_rfl
theorem qrS{ds:List D}(h:ShD Tryz.prog 30 ds):∃x:Cluster,ds=x.e∧x.wf:=by
 obtain⟨hl,hf⟩:=qcy Tryz.underlying30 h
 rw[Tryz.cells30]at hl
 obtain⟨a0,a1,a2,a3,a4,a5,a6,rfl⟩:=lst7 hl
 have g0:ShD Tryz.prog 24 [a0,a1,a2]:=by
  have:=hf _ (zl ..)
  rw[Tryz.cells24]at this
  exact this
 obtain⟨v0,e0,w0⟩:=qrK g0
 simp only[Graph.e,zbq,and_true]at e0
 obtain⟨rfl,rfl,rfl⟩:=e0
 have g1:ShD Tryz.prog 25 [a3]:=by
  have:=hf _ (zg _ (zl ..))
  rw[Tryz.cells25]at this
  exact this
 obtain⟨v1,e1,w1⟩:=qrO g1
 obtain rfl:=(zD e1).1
 have g2:ShD Tryz.prog 26 [a4]:=by
  have:=hf _ (zg _ (zg _ (zl ..)))
  rw[Tryz.cells26]at this
  exact this
 obtain⟨v2,e2,w2⟩:=qrP g2
 obtain rfl:=(zD e2).1
 have g3:ShD Tryz.prog 27 [a5]:=by
  have:=hf _ (zg _ (zg _ (zg _ (zl ..))))
  rw[Tryz.cells27]at this
  exact this
 obtain⟨v3,e3,w3⟩:=qrQ g3
 obtain rfl:=(zD e3).1
 have g4:ShD Tryz.prog 28 [a6]:=by
  have:=hf _ (zg _ (zg _ (zg _ (zg _ (zl ..)))))
  rw[Tryz.cells28]at this
  exact this
 obtain⟨v4,e4,w4⟩:=qrR g4
 obtain rfl:=(zD e4).1
 exact⟨⟨v0,v1,v2,v3,v4⟩,rfl,⟨w0,w1,w2,w3,w4⟩⟩
theorem qrT{ad:AD}(h:ShA Tryz.prog 30 ad):∃x:Cluster,ad=.agg x.e∧x.wf:=by
 cases ad with
 | one d=>have:=h.2;simp[aggT,Tryz.underlying30]at this
 | agg ds=>
  obtain⟨x,rfl,hx⟩:=qrS h.1
  exact⟨x,rfl,hx⟩
end Go.Proofs.YtdanpadojemjeaaGreat
