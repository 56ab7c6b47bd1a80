import Derived.Test.YthfnndblgbjniaaGreatDoorGE
namespace Go.Proofs.YthfnndblgbjniaaGreatDoor
open Go.Sx Go.RowKit
theorem SY(A:ae)(h:af []):
 ax 5 [aY 1 A] [ar (decide ((A.length:Int)>1048576))]:=
 h.of
