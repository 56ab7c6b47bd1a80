/- From a reading of an argument to a structure (printed by gentypes.py) -/
import Derived.Test.YtenekpkjlgddnaaDoorB0
import Derived.Test.YtenekpkjlgddnaaDoorR15
import Derived.JoinedOf
set_option linter.unusedVariables false
set_option linter.unusedSimpArgs false
namespace Go.Proofs.YtenekpkjlgddnaaDoor
open Go.Sx Go.RowKit
theorem Tryd.own:ownKnob Tryd.prog.godebug=none:=by kernel_rfl
theorem Tryd.laidOut:laidOutB Tryd.prog=true:=by kernel_rfl
theorem qa6{P:Program}{t:TypeId}{ds:List D}(hu:P.underlying t=some (.int .i64))(h:ShD P t ds):∃n,ds=[I n]∧inInt .i64 n:=by
 have h2:∃n,ds=[.v (.int .i64 n)]∧(Lit.int .i64 n).wf=true:=by cases h<;>simp_all
 obtain⟨n,e,hw⟩:=h2
 refine⟨n,e,?_⟩
 simp[Lit.wf]at hw
 have h3:IntKind.i64.min=-9223372036854775808:=rfl
 rw[h3]at hw
 exact hw
theorem qgU{P:Program}{t:TypeId}{ds:List D}(hu:P.underlying t=some .bool)(h:ShD P t ds):∃b,ds=[B b]:=by
 cases h<;>simp_all
theorem qiP{P:Program}{t e:TypeId}{ds:List D}(hu:P.underlying t=some (.slice e))(h:ShD P t ds):∃es,ds=[.sl (P.cellsOf e) es]∧es.length≤maxLen∧∀x∈es,ShD P e x:=by
 cases h<;>simp_all
theorem qcK{P:Program}{t:TypeId}{fs:Array Field}{ds:List D}(hu:P.underlying t=some (.struct fs))(h:ShD P t ds):ds.length=P.cellsOf t∧∀f∈fs.toList,ShD P f.type ((ds.drop f.offset).take (P.cellsOf f.type)):=by
 cases h<;>simp_all
theorem qgV{α:Type}(f:α→List D)(W:α→Prop):∀{es:List (List D)},(∀ds∈es,∃a,ds=f a∧W a)→∃xs:List α,es=xs.map f∧∀a∈xs,W a
 | [],_=>⟨[],rfl,by simp⟩
 | ds::es,h=>by
  obtain⟨a,rfl,ha⟩:=h ds (by simp)
  obtain⟨xs,rfl,hxs⟩:=qgV f W (es:=es) fun x hx=>h x (by simp[hx])
  refine⟨a::xs,rfl,fun b hb=>?_⟩
  rcases zL.1 hb with rfl | hb
  ·exact ha
  ·exact hxs b hb
theorem qcL{α:Type}(f:α→List D)(W:α→Prop){P:Program}{t e:TypeId}{k:Nat}(hu:P.underlying t=some (.slice e))(hk:P.cellsOf e=k)(hel:∀ds,ShD P e ds→∃a,ds=f a∧W a){ds:List D}(h:ShD P t ds):
  ∃xs:List α,ds=[.sl k (xs.map f)]∧(xs.length:Int)≤9223372036854775807∧∀a∈xs,W a:=by
 obtain⟨es,rfl,hl,he⟩:=qiP hu h
 obtain⟨xs,rfl,hxs⟩:=qgV f W fun ds hds=>hel ds (he ds hds)
 refine⟨xs,by rw[hk],?_,hxs⟩
 have hm:maxLen=9223372036854775807:=rfl
 rw[zb]at hl
 omega
theorem lst1{α:Type}{l:List α}(h:l.length=1):∃a0,l=[a0]:=by
 match l,h with
 | [a0],_=>exact⟨a0,rfl⟩
theorem lst2{α:Type}{l:List α}(h:l.length=2):∃a0 a1,l=[a0,a1]:=by
 match l,h with
 | [a0,a1],_=>exact⟨a0,a1,rfl⟩
theorem lst4{α:Type}{l:List α}(h:l.length=4):∃a0 a1 a2 a3,l=[a0,a1,a2,a3]:=by
 match l,h with
 | [a0,a1,a2,a3],_=>exact⟨a0,a1,a2,a3,rfl⟩
theorem lst5{α:Type}{l:List α}(h:l.length=5):∃a0 a1 a2 a3 a4,l=[a0,a1,a2,a3,a4]:=by
 match l,h with
 | [a0,a1,a2,a3,a4],_=>exact⟨a0,a1,a2,a3,a4,rfl⟩
theorem lst8{α:Type}{l:List α}(h:l.length=8):∃a0 a1 a2 a3 a4 a5 a6 a7,l=[a0,a1,a2,a3,a4,a5,a6,a7]:=by
 match l,h with
 | [a0,a1,a2,a3,a4,a5,a6,a7],_=>exact⟨a0,a1,a2,a3,a4,a5,a6,a7,rfl⟩
theorem Tryd.cells3:Tryd.prog.cellsOf 3=1:=by kernel_rfl
theorem Tryd.cells4:Tryd.prog.cellsOf 4=1:=by kernel_rfl
theorem Tryd.cells73:Tryd.prog.cellsOf 73=2:=by kernel_rfl
theorem qiQ{ds:List D}(h:ShD Tryd.prog 73 ds):∃x:Stamp,ds=x.e∧x.wf:=by
 obtain⟨hl,hf⟩:=qcK Tryd.underlying73 h
 rw[Tryd.cells73]at hl
 obtain⟨a0,a1,rfl⟩:=lst2 hl
 have g0:ShD Tryd.prog 3 [a0]:=by
  have:=hf _ (zm ..)
  rw[Tryd.cells3]at this
  exact this
 obtain⟨v0,e0,w0⟩:=qa6 Tryd.underlying3 g0
 obtain rfl:=(zG e0).1
 have g1:ShD Tryd.prog 3 [a1]:=by
  have:=hf _ (zg _ (zm ..))
  rw[Tryd.cells3]at this
  exact this
 obtain⟨v1,e1,w1⟩:=qa6 Tryd.underlying3 g1
 obtain rfl:=(zG e1).1
 exact⟨⟨v0,v1⟩,rfl,⟨w0,w1⟩⟩
theorem Tryd.cells75:Tryd.prog.cellsOf 75=5:=by kernel_rfl
theorem qiR{ds:List D}(h:ShD Tryd.prog 75 ds):∃x:Record,ds=x.e∧x.wf:=by
 obtain⟨hl,hf⟩:=qcK Tryd.underlying75 h
 rw[Tryd.cells75]at hl
 obtain⟨a0,a1,a2,a3,a4,rfl⟩:=lst5 hl
 have g0:ShD Tryd.prog 3 [a0]:=by
  have:=hf _ (zm ..)
  rw[Tryd.cells3]at this
  exact this
 obtain⟨v0,e0,w0⟩:=qa6 Tryd.underlying3 g0
 obtain rfl:=(zG e0).1
 have g1:ShD Tryd.prog 73 [a1,a2]:=by
  have:=hf _ (zg _ (zm ..))
  rw[Tryd.cells73]at this
  exact this
 obtain⟨v1,e1,w1⟩:=qiQ g1
 simp only[Stamp.e,zbr,and_true]at e1
 obtain⟨rfl,rfl⟩:=e1
 have g2:ShD Tryd.prog 3 [a3]:=by
  have:=hf _ (zg _ (zg _ (zm ..)))
  rw[Tryd.cells3]at this
  exact this
 obtain⟨v2,e2,w2⟩:=qa6 Tryd.underlying3 g2
 obtain rfl:=(zG e2).1
 have g3:ShD Tryd.prog 3 [a4]:=by
  have:=hf _ (zg _ (zg _ (zg _ (zm ..))))
  rw[Tryd.cells3]at this
  exact this
 obtain⟨v3,e3,w3⟩:=qa6 Tryd.underlying3 g3
 obtain rfl:=(zG e3).1
 exact⟨⟨v0,v1,v2,v3⟩,rfl,⟨w0,w1,w2,w3⟩⟩
theorem Tryd.cells79:Tryd.prog.cellsOf 79=4:=by kernel_rfl
theorem qiS{ds:List D}(h:ShD Tryd.prog 79 ds):∃x:Cell,ds=x.e∧x.wf:=by
 obtain⟨hl,hf⟩:=qcK Tryd.underlying79 h
 rw[Tryd.cells79]at hl
 obtain⟨a0,a1,a2,a3,rfl⟩:=lst4 hl
 have g0:ShD Tryd.prog 3 [a0]:=by
  have:=hf _ (zm ..)
  rw[Tryd.cells3]at this
  exact this
 obtain⟨v0,e0,w0⟩:=qa6 Tryd.underlying3 g0
 obtain rfl:=(zG e0).1
 have g1:ShD Tryd.prog 3 [a1]:=by
  have:=hf _ (zg _ (zm ..))
  rw[Tryd.cells3]at this
  exact this
 obtain⟨v1,e1,w1⟩:=qa6 Tryd.underlying3 g1
 obtain rfl:=(zG e1).1
 have g2:ShD Tryd.prog 3 [a2]:=by
  have:=hf _ (zg _ (zg _ (zm ..)))
  rw[Tryd.cells3]at this
  exact this
 obtain⟨v2,e2,w2⟩:=qa6 Tryd.underlying3 g2
 obtain rfl:=(zG e2).1
 have g3:ShD Tryd.prog 3 [a3]:=by
  have:=hf _ (zg _ (zg _ (zg _ (zm ..))))
  rw[Tryd.cells3]at this
  exact this
 obtain⟨v3,e3,w3⟩:=qa6 Tryd.underlying3 g3
 obtain rfl:=(zG e3).1
 exact⟨⟨v0,v1,v2,v3⟩,rfl,⟨w0,w1,w2,w3⟩⟩
theorem Tryd.cells81:Tryd.prog.cellsOf 81=2:=by kernel_rfl
theorem qiT{ds:List D}(h:ShD Tryd.prog 81 ds):∃x:Done,ds=x.e∧x.wf:=by
 obtain⟨hl,hf⟩:=qcK Tryd.underlying81 h
 rw[Tryd.cells81]at hl
 obtain⟨a0,a1,rfl⟩:=lst2 hl
 have g0:ShD Tryd.prog 3 [a0]:=by
  have:=hf _ (zm ..)
  rw[Tryd.cells3]at this
  exact this
 obtain⟨v0,e0,w0⟩:=qa6 Tryd.underlying3 g0
 obtain rfl:=(zG e0).1
 have g1:ShD Tryd.prog 4 [a1]:=by
  have:=hf _ (zg _ (zm ..))
  rw[Tryd.cells4]at this
  exact this
 obtain⟨v1,e1⟩:=qgU Tryd.underlying4 g1
 obtain rfl:=(zG e1).1
 exact⟨⟨v0,v1⟩,rfl,⟨w0⟩⟩
theorem qfa{ds:List D}(h:ShD Tryd.prog 28 ds):∃xs:List Record,ds=[.sl 5 (xs.map Record.e)]∧(xs.length:Int)≤9223372036854775807∧∀a∈xs,(Record.wf) a:=
 qcL Record.e (Record.wf) Tryd.underlying28 Tryd.cells75 (fun ds h=>qiR h) h
theorem Tryd.cells28:Tryd.prog.cellsOf 28=1:=by kernel_rfl
theorem qiU{ds:List D}(h:ShD Tryd.prog 29 ds):∃xs:List Cell,ds=[.sl 4 (xs.map Cell.e)]∧(xs.length:Int)≤9223372036854775807∧∀a∈xs,(Cell.wf) a:=
 qcL Cell.e (Cell.wf) Tryd.underlying29 Tryd.cells79 (fun ds h=>qiS h) h
theorem Tryd.cells29:Tryd.prog.cellsOf 29=1:=by kernel_rfl
theorem qiV{ds:List D}(h:ShD Tryd.prog 30 ds):∃xs:List Int,ds=[.sl 1 (xs.map eI)]∧(xs.length:Int)≤9223372036854775807∧∀a∈xs,(fun n=>inInt .i64 n) a:=
 qcL eI (fun n=>inInt .i64 n) Tryd.underlying30 Tryd.cells3 (fun ds h=>qa6 Tryd.underlying3 h) h
theorem Tryd.cells30:Tryd.prog.cellsOf 30=1:=by kernel_rfl
theorem qgW{ds:List D}(h:ShD Tryd.prog 31 ds):∃xs:List Bool,ds=[.sl 1 (xs.map eB)]∧(xs.length:Int)≤9223372036854775807∧∀a∈xs,(fun _=>True) a:=
 qcL eB (fun _=>True) Tryd.underlying31 Tryd.cells4 (fun ds h=>(qgU Tryd.underlying4 h).imp fun _ h=>⟨h,trivial⟩) h
theorem Tryd.cells31:Tryd.prog.cellsOf 31=1:=by kernel_rfl
theorem qiW{ds:List D}(h:ShD Tryd.prog 32 ds):∃xs:List Done,ds=[.sl 2 (xs.map Done.e)]∧(xs.length:Int)≤9223372036854775807∧∀a∈xs,(Done.wf) a:=
 qcL Done.e (Done.wf) Tryd.underlying32 Tryd.cells81 (fun ds h=>qiT h) h
theorem Tryd.cells32:Tryd.prog.cellsOf 32=1:=by kernel_rfl
theorem Tryd.cells34:Tryd.prog.cellsOf 34=8:=by kernel_rfl
theorem qiX{ds:List D}(h:ShD Tryd.prog 34 ds):∃x:Worker,ds=x.e∧x.wf:=by
 obtain⟨hl,hf⟩:=qcK Tryd.underlying34 h
 rw[Tryd.cells34]at hl
 obtain⟨a0,a1,a2,a3,a4,a5,a6,a7,rfl⟩:=lst8 hl
 have g0:ShD Tryd.prog 28 [a0]:=by
  have:=hf _ (zm ..)
  rw[Tryd.cells28]at this
  exact this
 obtain⟨v0,e0,w0⟩:=qfa g0
 obtain rfl:=(zG e0).1
 have g1:ShD Tryd.prog 28 [a1]:=by
  have:=hf _ (zg _ (zm ..))
  rw[Tryd.cells28]at this
  exact this
 obtain⟨v1,e1,w1⟩:=qfa g1
 obtain rfl:=(zG e1).1
 have g2:ShD Tryd.prog 28 [a2]:=by
  have:=hf _ (zg _ (zg _ (zm ..)))
  rw[Tryd.cells28]at this
  exact this
 obtain⟨v2,e2,w2⟩:=qfa g2
 obtain rfl:=(zG e2).1
 have g3:ShD Tryd.prog 29 [a3]:=by
  have:=hf _ (zg _ (zg _ (zg _ (zm ..))))
  rw[Tryd.cells29]at this
  exact this
 obtain⟨v3,e3,w3⟩:=qiU g3
 obtain rfl:=(zG e3).1
 have g4:ShD Tryd.prog 30 [a4]:=by
  have:=hf _ (zg _ (zg _ (zg _ (zg _ (zm ..)))))
  rw[Tryd.cells30]at this
  exact this
 obtain⟨v4,e4,w4⟩:=qiV g4
 obtain rfl:=(zG e4).1
 have g5:ShD Tryd.prog 31 [a5]:=by
  have:=hf _ (zg _ (zg _ (zg _ (zg _ (zg _ (zm ..))))))
  rw[Tryd.cells31]at this
  exact this
 obtain⟨v5,e5,w5⟩:=qgW g5
 obtain rfl:=(zG e5).1
 have g6:ShD Tryd.prog 31 [a6]:=by
  have:=hf _ (zg _ (zg _ (zg _ (zg _ (zg _ (zg _ (zm ..)))))))
  rw[Tryd.cells31]at this
  exact this
 obtain⟨v6,e6,w6⟩:=qgW g6
 obtain rfl:=(zG e6).1
 have g7:ShD Tryd.prog 32 [a7]:=by
  have:=hf _ (zg _ (zg _ (zg _ (zg _ (zg _ (zg _ (zg _ (zm ..))))))))
  rw[Tryd.cells32]at this
  exact this
 obtain⟨v7,e7,w7⟩:=qiW g7
 obtain rfl:=(zG e7).1
 exact⟨⟨v0,v1,v2,v3,v4,v5,v6,v7⟩,rfl,⟨w0,w1,w2,w3,w4,w5.1,w6.1,w7⟩⟩
theorem qiY{ad:AD}(h:ShA Tryd.prog 34 ad):∃x:Worker,ad=.agg x.e∧x.wf:=by
 cases ad with
 | one d=>have:=h.2;simp[aggT,Tryd.underlying34]at this
 | agg ds=>
  obtain⟨x,rfl,hx⟩:=qiX h.1
  exact⟨x,rfl,hx⟩
end Go.Proofs.YtenekpkjlgddnaaDoor
namespace Go.Proofs.YtenekpkjlgddnaaDoor
open Go.ChangeShapes Go.WideShapes Go.ChangeAt Go.RowKit Go.Joins Go.Sx
theorem both{a b:Bool}(h:a=true)(k:b=true):(a&&b)=true:=by rw[h,k];rfl
theorem qiZ{P:Program}{f:FuncId}{fn:Func}{s:ChangeSpec}{c:OpenClaim}
  (g1:c.wf (OpenSpec.ofChange s)=true) (g2:laidOutB P=true) (g3:mapsRowed P=true)
  (g4:(fn.params.all (P.readableRec ·)&&namedTie P c.named s.vars&&(c.stops==[])&&(P.stops==[])&&(c.knobs==[])&&(P.stopKnobs==[]))=true)
  (g5:(c.inPlace==P.inPlace f)=true) (g6:(c.unfollowed==P.unfollowed f)=true) (g7:(c.recurses==P.recurses f)=true) (g8:(c.named==P.varsNamed f)=true)
  (g9:((c.maps==(fn.params.toList++s.plain.varTypes P).any (P.mapsRec ·))&&(c.ifaces==(fn.params.toList++s.plain.varTypes P).any (P.ifacesRec ·))&&(c.mapsOut==P.mapsAmong fn.resultTypes.toList))=true)
  (g10:((c.loops==(fn.params.toList++s.plain.varTypes P).any (P.loopsFrom ·))&&(c.wideKeys==(fn.params.toList++s.plain.varTypes P++fn.resultTypes.toList).any (P.wideKeysFrom ·)))=true)
  (g11:(s.vars.all (P.varReadable ·)&&fn.resultTypes.all (fun t=>P.readableRec t&&decide (t<P.types.size))&&(c.ifacesOut==fn.resultTypes.toList.any (P.ifacesRec ·))&&(c.loopsOut==fn.resultTypes.toList.any (P.loopsFrom ·)))=true)
  (g12:(c.plainKeys==P.plainKeys)=true) (g13:(c.shortTexts.isNone&&P.stopsHeard)=true)
  (g14:P.mayEnter=true) (g15:(c.lifted==P.liftsFinal)=true) (g16:(P.make==some c.make)=true)
  (g17:((c.kinds==(if c.domain.isEmpty then [] else fn.params.toList.map fun t=>match P.underlying t with | some (.int k)=>some k | _=>none))&&(c.pinned==c.pinnedBy))=true)
  (g18:((c.veiled==(fn.params.toList++s.plain.varTypes P++fn.resultTypes.toList).any (P.veiledRec ·))&&c.veiledFits P fn.params.toList (fn.params.toList++s.plain.varTypes P++fn.resultTypes.toList))=true):
  joinedFacts P f fn s c=true:=by
 rw[zj,zj,zj,zj,zj]at g4
 rw[zj,zj]at g9
 rw[zj]at g10 g13 g17 g18
 rw[zj,zj,zj]at g11
 exact (both (both (both (both (both (both (both (both (both (both (both (both (both (both (both (both (both (both (both (both (both (both (both (both (both (both (both (both (both (both (both g1 g2) g3) g4.1.1.1.1.1) g4.1.1.1.1.2) g4.1.1.1.2) g4.1.1.2) g4.1.2) g4.2) g5) g6) g7) g8) g9.1.1) g9.1.2) g9.2) g10.1) g10.2) g11.1.1.1) g11.1.1.2) g11.1.2) g11.2) g12) g13.1) g13.2) g14) g15) g16) g17.1) g17.2) g18.1) g18.2)
theorem qi0:mapsRowed Tryd.prog=true:=by kernel_rfl
theorem qi1:Tryd.prog.plainKeys=true:=by kernel_rfl
theorem qi2:Tryd.prog.mayEnter=true:=by kernel_rfl
theorem qi3:Tryd.prog.liftsFinal=false:=by kernel_rfl
theorem qi4:Tryd.prog.make=some .cut:=by kernel_rfl
end Go.Proofs.YtenekpkjlgddnaaDoor
