/- What every step leaves: the graph, and what the links have received; a run of picks. -/
import Derived.Test.YtdanpadojemjeaaGreatP40
import Derived.Test.YtdanpadojemjeaaGreatP31
import Derived.Test.YtdanpadojemjeaaGreatP49
import Derived.Test.YtdanpadojemjeaaGreatP7
import Derived.Test.YtdanpadojemjeaaGreatGX
import Derived.Test.YtdanpadojemjeaaGreatGW
set_option linter.unusedVariables false
set_option linter.unusedSimpArgs false
namespace Go.Proofs.YtdanpadojemjeaaGreat
open Go.Sx Go.RowKit
theorem GotLe.setL{c:Cluster}{i:Int}{l:Link}(h:GotLe c)(hl:l.got≤9223372036854775807):GotLe (setL c i l):=by
 intro x hx
 rcases zbc hx with h1 | rfl
 ·exact h x h1
 ·exact hl
theorem GotLe.at{c:Cluster}{i:Int}{x:Link}(h:lAt c i=some x)(hw:GotLe c):x.got≤9223372036854775807:=hw _ (qaq (qdY h).2.2)
structure Kept' (c d:Cluster):Prop where
 graph:d.graph=c.graph
 got:GotLe c→GotLe d
theorem Kept'.rfl{c:Cluster}:Kept' c c:=⟨Eq.refl _,id⟩
theorem Kept'.links{c d:Cluster}(h1:d.graph=c.graph)(h2:d.links=c.links):Kept' c d:=⟨h1,fun h x hx=>h x (h2▸hx)⟩
theorem Kept'.trans{c d e:Cluster}(h:Kept' c d)(k:Kept' d e):Kept' c e:=⟨k.graph.trans h.graph,fun x=>k.got (h.got x)⟩
end Go.Proofs.YtdanpadojemjeaaGreat
namespace Go.Proofs.YtdanpadojemjeaaGreat
open Go.Sx Go.RowKit
end Go.Proofs.YtdanpadojemjeaaGreat
