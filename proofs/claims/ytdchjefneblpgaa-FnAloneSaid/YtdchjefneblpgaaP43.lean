import Derived.Test.YtdchjefneblpgaaP90
import Derived.Test.YtdchjefneblpgaaGV
import Derived.WalkKit
import Derived.Deep.RegionLaw
import Derived.Shelf.RegionOpenPlain
import Derived.Lib.SliceRun
import Derived.Deep.LoopGhost
import Derived.Lib.Walk
set_option linter.unusedVariables false
set_option linter.unusedSimpArgs false
namespace Go.Proofs.Ytdchjefneblpgaa
open Go.Sx Go.RowKit
theorem O7(xs:List Int):Flat (xs.map aY):=bW aY (fun _ _ ay=>⟨_,List.mem_singleton.1 ay⟩) xs
theorem mH.flat(r:mH):∀d∈r.e,∃x,d=.v x:=by
 intro d ay;simp only[mH.e,dj,nZ,or_false]at ay;rcases ay with rfl | rfl<;>exact⟨_,rfl⟩
theorem jd.flat(r:jd):∀d∈r.e,∃x,d=.v x:=by
 intro d ay;simp only[jd.e,dj,nZ,or_false]at ay;rcases ay with rfl | rfl | rfl<;>exact⟨_,rfl⟩
theorem hc.flat(r:hc):∀d∈r.e,∃x,d=.v x:=by
 intro d ay;simp only[hc.e,dj,nZ,or_false]at ay;rcases ay with rfl | rfl | rfl | rfl | rfl<;>exact⟨_,rfl⟩
end Go.Proofs.Ytdchjefneblpgaa
namespace Go.Proofs.Ytdchjefneblpgaa
open Go.Sx Go.RowKit Go.Shelf Go.Lib
theorem cell_of_heap{w:World}{b:Nat}{arr:Array Value}{tb:TypeId}(ah:w.heap[b]?=some (.cells arr tb (0,0))){x:Nat}{v:Value}(h:arr[x]?=some v):w.cell? ⟨b,x,none⟩=some v:=by
 simp[World.cell?,ah,h]
end Go.Proofs.Ytdchjefneblpgaa
namespace Go.Proofs.Ytdchjefneblpgaa
open Go.Sx Go.RowKit
