import Derived.Test.YthfnndblgbjniaaGreatDoorGE
namespace Go.Proofs.YthfnndblgbjniaaGreatDoor
open Go.Sx Go.RowKit
theorem U9(A:af)(h:ae []):
 al 5 [aO 1 A] [ai (decide ((A.length:Int)>1048576))]:=
 h.of
