import Derived.Test.YtdchjefneblpgaaRows
import Derived.Test.YtdchjefneblpgaaR34
set_option linter.unusedVariables false
set_option linter.unusedSimpArgs false
namespace Go.Proofs.Ytdchjefneblpgaa
open Go.Sx Go.RowKit Go.Proofs.Try
abbrev aA:=gm prog
abbrev GY:=je prog
abbrev dx:=cv prog
abbrev bp:=eS prog
abbrev al:=eg prog
def _root_.Go.Sx.O.k(A:aE)(f:Nat)(a b c d n r:Int):O:=.p (cv prog f [ba.cur [D.aa 1 A,I a,I b] [D.aa 1 A,I c,I d],ba.ro (ao n)] (bd.vals [ao r]))
def _root_.Go.Sx.O.m(A:aE)(f:Nat)(a b c d n:Int)(r:Bool):O:=.p (cv prog f [ba.cur [D.aa 1 A,I a,I b] [D.aa 1 A,I c,I d],ba.ro (ao n)] (bd.vals [au r]))
def _root_.Go.Sx.O.w(A:aE)(a b c:Int):O:=.a (.eI [some [D.aa 1 A,I a,I b],none] (bd.vals [ao c]))
def _root_.Go.Sx.O.y(A:aE)(a b:Int)(c:Bool):O:=.a (.eI [some [D.aa 1 A,I a,I b],none] (bd.vals [au c]))
def bR(n:Nat)(e:List (Nat×az))(b:List (Nat×List aq)):aG:={ env:=O2 n e,boxes:=b }
