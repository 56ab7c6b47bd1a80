/- GraphOk, NodeOk, RecordOk, StampOk, NextTurn: what program and reference compute (the cases were put together by gentree.py). -/
import Derived.Test.YtenekpkjlgddnaaP9
import Derived.Test.YtenekpkjlgddnaaGQ
import Derived.Test.YtenekpkjlgddnaaGR
set_option linter.unusedVariables false
set_option linter.unusedSimpArgs false
namespace Go.Proofs.Ytenekpkjlgddnaa
open Go.Sx Go.RowKit Go.Proofs.Try
def qaG(s:Stamp):Bool:=inR s.epoch 0 3&&inR s.turn 0 6
def qaz(k v:Int):Bool:=inR k 0 99&&inR v 0 999
def qaw(r:Record):Bool:=inR r.op 0 7&&qaG r.stamp&&qaz r.key r.val
def qat(s:Stamp):Stamp×Bool:=if qaG s&&decide (s.turn<6) then (⟨s.epoch,s.turn+1⟩,true) else (s,false)
def less(a b:Int):Int:=if b<a then b else a
def abOk(x:Node):Bool:=
 if x.kind=2 then inR x.a 0 999&&x.b==0
 else if x.kind=3 then inR x.a 1 10&&inR x.b 0 (IntKind.i64.wrap (x.a-1))
 else if x.kind=4 then inR x.a 0 99&&x.b==0
 else inR x.kind 1 8&&x.a==0&&x.b==0
def okAll(l:List Int):Bool:=!(l.any fun k=>!inR k 0 7)
def dupO(l:List Int):Bool:=decide (l.length=2∧l[0]?=l[1]?)
def qaa(x:Node):Bool:=abOk x&&decide (x.outs.length≤2)&&!(x.kind==8&&decide (0<x.outs.length))&&!dupO x.outs&&okAll x.outs
theorem look{α:Type}{xs:List α}{i:Int}(h0:0≤i)(h1:i<xs.length):∃a,xs[i.toNat]?=some a:=qag (by omega)
theorem qac{α:Type}{xs:List α}{i:Nat}{a:α}(f:α→List D)(h:xs[i]?=some a):(xs.map f)[i]?=some (f a):=by simp[h]
theorem qaq(x:Node)(hx:x.outs.length≤8388608):(okAll x.outs=false∧qam prog (qab f64 0) (qaf (x.outs.map eI) 0) .ret (qan false))∨(okAll x.outs=true∧qam prog (qab f64 0) (qaf (x.outs.map eI) 0) (.exit 1) qao):=by
 have l:=qcU (P:=prog) (c:=(qab f64 0)) x.outs (fun k=>!inR k 0 7) (fun i=>qaf (x.outs.map eI) i) (X:=fun _ _=>qan false) qcT (qaF 1)
  (fun i a ha h=>qmf ⟨lt1 (lt_of ha),lt0,lt2 (lt_of ha),qaB eI ha,qaV a 0 7,h,up1 (lt_of ha) hx,trivial⟩)
  (fun i a ha h=>qme ⟨lt1 (lt_of ha),lt0,lt2 (lt_of ha),qaB eI ha,qaV a 0 7,h,trivial⟩)
  (qmg ⟨ge1,trivial⟩)
 unfold okAll
 rcases l with⟨_,_,h1,h2⟩ | ⟨i,a,_,_,_,_,h1,h2⟩
 ·exact .inr ⟨by rw[h1];rfl,h2⟩
 ·exact .inl ⟨by rw[h1];rfl,h2⟩
theorem qio(s:Stamp):Rt 65 [.agg s.e] [.one (B (qaG s))]:=by
 have c1:=qaV s.epoch 0 3
 cases h2:(inR s.epoch 0 3) with
 | true=>
  have c3:=qaV s.turn 0 6
  rw[show qaG s=inR s.turn 0 6 from by grind[qaG]]
  exact qlW ⟨c1,h2,c3,trivial⟩
 | false=>
  rw[show qaG s=false from by grind[qaG]]
  exact qlX ⟨c1,h2,trivial⟩
theorem qip(k v:Int):Rt 66 [.one (I k),.one (I v)] [.one (B (qaz k v))]:=by
 have c1:=qaV k 0 99
 cases h2:(inR k 0 99) with
 | true=>
  have c3:=qaV v 0 999
  rw[show qaz k v=inR v 0 999 from by grind[qaz]]
  exact ql7 ⟨c1,h2,c3,trivial⟩
 | false=>
  rw[show qaz k v=false from by grind[qaz]]
  exact ql8 ⟨c1,h2,trivial⟩
theorem qem(r:Record):Rt 41 [.agg r.e] [.one (B (qaw r))]:=by
 have c1:=qaV r.op 0 7
 cases h2:(inR r.op 0 7) with
 | true=>
  have c3:=qio r.stamp
  cases h4:(qaG r.stamp) with
  | true=>
   have c5:=qip r.key r.val
   rw[show qaw r=qaz r.key r.val from by grind[qaw,qaz]]
   exact qlT ⟨c1,h2,c3,h4,c5,trivial⟩
  | false=>
   rw[show qaw r=false from by grind[qaw,qaz]]
   exact qlU ⟨c1,h2,c3,h4,trivial⟩
 | false=>
  rw[show qaw r=false from by grind[qaw,qaz]]
  exact qlV ⟨c1,h2,trivial⟩
theorem qf6(s:Stamp):Rt 43 [.agg s.e] [.agg ((qat s).1).e,.one (B ((qat s).2))]:=by
 have c1:=qio s
 cases h2:(qaG s) with
 | true=>
  cases h3:(s.turn==6) with
  | true=>
   rw[show qat s=(s,false) from by grind[qat,qaG,inR]]
   exact qlZ ⟨c1,(by rw[h2];rfl),h3,trivial⟩
  | false=>
   rw[show qat s=((⟨s.epoch,s.turn+1⟩:Stamp),true) from by grind[qat,qaG,inR]]
   exact ql0 ⟨c1,(by rw[h2];rfl),h3,(by grind[qaG,inR,inInt]),trivial⟩
 | false=>
  rw[show qat s=(s,false) from by grind[qat,qaG,inR]]
  exact qlY ⟨c1,(by rw[h2];rfl),trivial⟩
theorem qiq(x:Node)(hx:x.outs.length≤8388608):Rt 64 [.agg x.e] [.one (B (qaa x))]:=by
 cases h1:(x.kind==2) with
 | true=>
  have c2:=qaV x.a 0 999
  cases h3:(inR x.a 0 999) with
  | true=>
   cases h4:(x.b != 0) with
   | true=>
    rw[show qaa x=false from by grind[qaa,abOk,dupO,inR]]
    exact qma ⟨h1,c2,(by rw[h3];rfl),h4,trivial⟩
   | false=>
    cases h5:(decide ((↑(x.outs.map eI).length:Int)>2)) with
    | true=>
     rw[show qaa x=false from by grind[qaa,abOk,dupO,inR]]
     exact qmb ⟨h1,c2,(by rw[h3];rfl),h4,h5,trivial⟩
    | false=>
     cases h6:(x.kind==8) with
     | true=>
      cases h7:(decide ((↑(x.outs.map eI).length:Int)>0)) with
      | true=>
       rw[show qaa x=false from by grind[qaa,abOk,dupO,inR]]
       exact qmc ⟨h1,c2,(by rw[h3];rfl),h4,h5,h6,h7,trivial⟩
      | false=>
       cases h8:((↑(x.outs.map eI).length:Int)==2) with
       | true=>
        obtain⟨y9,hy9⟩:=qag (xs:=x.outs) (i:=0) (by grind[inR,inInt])
        obtain⟨y10,hy10⟩:=qag (xs:=x.outs) (i:=1) (by grind[inR,inInt])
        cases h11:(y9==y10) with
        | true=>
         rw[show qaa x=false from by grind[qaa,abOk,dupO,inR]]
         exact qmd ⟨h1,c2,(by rw[h3];rfl),h4,h5,h6,h7,h8,(by grind[inR,inInt]),(by grind[inR,inInt]),(qac eI hy9),(by grind[inR,inInt]),(by grind[inR,inInt]),(qac eI hy10),h11,trivial⟩
        | false=>
         rcases qaq x hx with⟨hL,l⟩ | ⟨hL,l⟩
         ·skip
          rw[show qaa x=false from by grind[qaa,abOk,dupO,inR]]
          exact qmh ⟨h1,c2,(by rw[h3];rfl),h4,h5,h6,h7,h8,(by grind[inR,inInt]),(by grind[inR,inInt]),(qac eI hy9),(by grind[inR,inInt]),(by grind[inR,inInt]),(qac eI hy10),h11,l,trivial⟩
         ·skip
          rw[show qaa x=true from by grind[qaa,abOk,dupO,inR]]
          exact qmi ⟨h1,c2,(by rw[h3];rfl),h4,h5,h6,h7,h8,(by grind[inR,inInt]),(by grind[inR,inInt]),(qac eI hy9),(by grind[inR,inInt]),(by grind[inR,inInt]),(qac eI hy10),h11,l,trivial⟩
       | false=>
        rcases qaq x hx with⟨hL,l⟩ | ⟨hL,l⟩
        ·skip
         rw[show qaa x=false from by grind[qaa,abOk,dupO,inR]]
         exact qmj ⟨h1,c2,(by rw[h3];rfl),h4,h5,h6,h7,h8,l,trivial⟩
        ·skip
         rw[show qaa x=true from by grind[qaa,abOk,dupO,inR]]
         exact qmk ⟨h1,c2,(by rw[h3];rfl),h4,h5,h6,h7,h8,l,trivial⟩
     | false=>
      cases h12:((↑(x.outs.map eI).length:Int)==2) with
      | true=>
       obtain⟨y13,hy13⟩:=qag (xs:=x.outs) (i:=0) (by grind[inR,inInt])
       obtain⟨y14,hy14⟩:=qag (xs:=x.outs) (i:=1) (by grind[inR,inInt])
       cases h15:(y13==y14) with
       | true=>
        rw[show qaa x=false from by grind[qaa,abOk,dupO,inR]]
        exact qml ⟨h1,c2,(by rw[h3];rfl),h4,h5,h6,h12,(by grind[inR,inInt]),(by grind[inR,inInt]),(qac eI hy13),(by grind[inR,inInt]),(by grind[inR,inInt]),(qac eI hy14),h15,trivial⟩
       | false=>
        rcases qaq x hx with⟨hL,l⟩ | ⟨hL,l⟩
        ·skip
         rw[show qaa x=false from by grind[qaa,abOk,dupO,inR]]
         exact qmm ⟨h1,c2,(by rw[h3];rfl),h4,h5,h6,h12,(by grind[inR,inInt]),(by grind[inR,inInt]),(qac eI hy13),(by grind[inR,inInt]),(by grind[inR,inInt]),(qac eI hy14),h15,l,trivial⟩
        ·skip
         rw[show qaa x=true from by grind[qaa,abOk,dupO,inR]]
         exact qmn ⟨h1,c2,(by rw[h3];rfl),h4,h5,h6,h12,(by grind[inR,inInt]),(by grind[inR,inInt]),(qac eI hy13),(by grind[inR,inInt]),(by grind[inR,inInt]),(qac eI hy14),h15,l,trivial⟩
      | false=>
       rcases qaq x hx with⟨hL,l⟩ | ⟨hL,l⟩
       ·skip
        rw[show qaa x=false from by grind[qaa,abOk,dupO,inR]]
        exact qmo ⟨h1,c2,(by rw[h3];rfl),h4,h5,h6,h12,l,trivial⟩
       ·skip
        rw[show qaa x=true from by grind[qaa,abOk,dupO,inR]]
        exact qmp ⟨h1,c2,(by rw[h3];rfl),h4,h5,h6,h12,l,trivial⟩
  | false=>
   rw[show qaa x=false from by grind[qaa,abOk,dupO,inR]]
   exact ql9 ⟨h1,c2,(by rw[h3];rfl),trivial⟩
 | false=>
  cases h16:(x.kind==3) with
  | true=>
   have c17:=qaV x.a 1 10
   cases h18:(inR x.a 1 10) with
   | true=>
    have c19:=qaV x.b 0 (IntKind.i64.wrap (x.a-1))
    cases h20:(inR x.b 0 (IntKind.i64.wrap (x.a-1))) with
    | true=>
     cases h21:(decide ((↑(x.outs.map eI).length:Int)>2)) with
     | true=>
      rw[show qaa x=false from by grind[qaa,abOk,dupO,inR]]
      exact qms ⟨h1,h16,c17,(by rw[h18];rfl),c19,(by rw[h20];rfl),h21,trivial⟩
     | false=>
      cases h22:(x.kind==8) with
      | true=>
       cases h23:(decide ((↑(x.outs.map eI).length:Int)>0)) with
       | true=>
        rw[show qaa x=false from by grind[qaa,abOk,dupO,inR]]
        exact qmt ⟨h1,h16,c17,(by rw[h18];rfl),c19,(by rw[h20];rfl),h21,h22,h23,trivial⟩
       | false=>
        cases h24:((↑(x.outs.map eI).length:Int)==2) with
        | true=>
         obtain⟨y25,hy25⟩:=qag (xs:=x.outs) (i:=0) (by grind[inR,inInt])
         obtain⟨y26,hy26⟩:=qag (xs:=x.outs) (i:=1) (by grind[inR,inInt])
         cases h27:(y25==y26) with
         | true=>
          rw[show qaa x=false from by grind[qaa,abOk,dupO,inR]]
          exact qmu ⟨h1,h16,c17,(by rw[h18];rfl),c19,(by rw[h20];rfl),h21,h22,h23,h24,(by grind[inR,inInt]),(by grind[inR,inInt]),(qac eI hy25),(by grind[inR,inInt]),(by grind[inR,inInt]),(qac eI hy26),h27,trivial⟩
         | false=>
          rcases qaq x hx with⟨hL,l⟩ | ⟨hL,l⟩
          ·skip
           rw[show qaa x=false from by grind[qaa,abOk,dupO,inR]]
           exact qmv ⟨h1,h16,c17,(by rw[h18];rfl),c19,(by rw[h20];rfl),h21,h22,h23,h24,(by grind[inR,inInt]),(by grind[inR,inInt]),(qac eI hy25),(by grind[inR,inInt]),(by grind[inR,inInt]),(qac eI hy26),h27,l,trivial⟩
          ·skip
           rw[show qaa x=true from by grind[qaa,abOk,dupO,inR]]
           exact qmw ⟨h1,h16,c17,(by rw[h18];rfl),c19,(by rw[h20];rfl),h21,h22,h23,h24,(by grind[inR,inInt]),(by grind[inR,inInt]),(qac eI hy25),(by grind[inR,inInt]),(by grind[inR,inInt]),(qac eI hy26),h27,l,trivial⟩
        | false=>
         rcases qaq x hx with⟨hL,l⟩ | ⟨hL,l⟩
         ·skip
          rw[show qaa x=false from by grind[qaa,abOk,dupO,inR]]
          exact qmx ⟨h1,h16,c17,(by rw[h18];rfl),c19,(by rw[h20];rfl),h21,h22,h23,h24,l,trivial⟩
         ·skip
          rw[show qaa x=true from by grind[qaa,abOk,dupO,inR]]
          exact qmy ⟨h1,h16,c17,(by rw[h18];rfl),c19,(by rw[h20];rfl),h21,h22,h23,h24,l,trivial⟩
      | false=>
       cases h28:((↑(x.outs.map eI).length:Int)==2) with
       | true=>
        obtain⟨y29,hy29⟩:=qag (xs:=x.outs) (i:=0) (by grind[inR,inInt])
        obtain⟨y30,hy30⟩:=qag (xs:=x.outs) (i:=1) (by grind[inR,inInt])
        cases h31:(y29==y30) with
        | true=>
         rw[show qaa x=false from by grind[qaa,abOk,dupO,inR]]
         exact qmz ⟨h1,h16,c17,(by rw[h18];rfl),c19,(by rw[h20];rfl),h21,h22,h28,(by grind[inR,inInt]),(by grind[inR,inInt]),(qac eI hy29),(by grind[inR,inInt]),(by grind[inR,inInt]),(qac eI hy30),h31,trivial⟩
        | false=>
         rcases qaq x hx with⟨hL,l⟩ | ⟨hL,l⟩
         ·skip
          rw[show qaa x=false from by grind[qaa,abOk,dupO,inR]]
          exact qmA ⟨h1,h16,c17,(by rw[h18];rfl),c19,(by rw[h20];rfl),h21,h22,h28,(by grind[inR,inInt]),(by grind[inR,inInt]),(qac eI hy29),(by grind[inR,inInt]),(by grind[inR,inInt]),(qac eI hy30),h31,l,trivial⟩
         ·skip
          rw[show qaa x=true from by grind[qaa,abOk,dupO,inR]]
          exact qmB ⟨h1,h16,c17,(by rw[h18];rfl),c19,(by rw[h20];rfl),h21,h22,h28,(by grind[inR,inInt]),(by grind[inR,inInt]),(qac eI hy29),(by grind[inR,inInt]),(by grind[inR,inInt]),(qac eI hy30),h31,l,trivial⟩
       | false=>
        rcases qaq x hx with⟨hL,l⟩ | ⟨hL,l⟩
        ·skip
         rw[show qaa x=false from by grind[qaa,abOk,dupO,inR]]
         exact qmC ⟨h1,h16,c17,(by rw[h18];rfl),c19,(by rw[h20];rfl),h21,h22,h28,l,trivial⟩
        ·skip
         rw[show qaa x=true from by grind[qaa,abOk,dupO,inR]]
         exact qmD ⟨h1,h16,c17,(by rw[h18];rfl),c19,(by rw[h20];rfl),h21,h22,h28,l,trivial⟩
    | false=>
     rw[show qaa x=false from by grind[qaa,abOk,dupO,inR]]
     exact qmr ⟨h1,h16,c17,(by rw[h18];rfl),c19,(by rw[h20];rfl),trivial⟩
   | false=>
    rw[show qaa x=false from by grind[qaa,abOk,dupO,inR]]
    exact qmq ⟨h1,h16,c17,(by rw[h18];rfl),trivial⟩
  | false=>
   cases h32:(x.kind==4) with
   | true=>
    have c33:=qaV x.a 0 99
    cases h34:(inR x.a 0 99) with
    | true=>
     cases h35:(x.b != 0) with
     | true=>
      rw[show qaa x=false from by grind[qaa,abOk,dupO,inR]]
      exact qmF ⟨h1,h16,h32,c33,(by rw[h34];rfl),h35,trivial⟩
     | false=>
      cases h36:(decide ((↑(x.outs.map eI).length:Int)>2)) with
      | true=>
       rw[show qaa x=false from by grind[qaa,abOk,dupO,inR]]
       exact qmG ⟨h1,h16,h32,c33,(by rw[h34];rfl),h35,h36,trivial⟩
      | false=>
       cases h37:(x.kind==8) with
       | true=>
        cases h38:(decide ((↑(x.outs.map eI).length:Int)>0)) with
        | true=>
         rw[show qaa x=false from by grind[qaa,abOk,dupO,inR]]
         exact qmH ⟨h1,h16,h32,c33,(by rw[h34];rfl),h35,h36,h37,h38,trivial⟩
        | false=>
         cases h39:((↑(x.outs.map eI).length:Int)==2) with
         | true=>
          obtain⟨y40,hy40⟩:=qag (xs:=x.outs) (i:=0) (by grind[inR,inInt])
          obtain⟨y41,hy41⟩:=qag (xs:=x.outs) (i:=1) (by grind[inR,inInt])
          cases h42:(y40==y41) with
          | true=>
           rw[show qaa x=false from by grind[qaa,abOk,dupO,inR]]
           exact qmI ⟨h1,h16,h32,c33,(by rw[h34];rfl),h35,h36,h37,h38,h39,(by grind[inR,inInt]),(by grind[inR,inInt]),(qac eI hy40),(by grind[inR,inInt]),(by grind[inR,inInt]),(qac eI hy41),h42,trivial⟩
          | false=>
           rcases qaq x hx with⟨hL,l⟩ | ⟨hL,l⟩
           ·skip
            rw[show qaa x=false from by grind[qaa,abOk,dupO,inR]]
            exact qmJ ⟨h1,h16,h32,c33,(by rw[h34];rfl),h35,h36,h37,h38,h39,(by grind[inR,inInt]),(by grind[inR,inInt]),(qac eI hy40),(by grind[inR,inInt]),(by grind[inR,inInt]),(qac eI hy41),h42,l,trivial⟩
           ·skip
            rw[show qaa x=true from by grind[qaa,abOk,dupO,inR]]
            exact qmK ⟨h1,h16,h32,c33,(by rw[h34];rfl),h35,h36,h37,h38,h39,(by grind[inR,inInt]),(by grind[inR,inInt]),(qac eI hy40),(by grind[inR,inInt]),(by grind[inR,inInt]),(qac eI hy41),h42,l,trivial⟩
         | false=>
          rcases qaq x hx with⟨hL,l⟩ | ⟨hL,l⟩
          ·skip
           rw[show qaa x=false from by grind[qaa,abOk,dupO,inR]]
           exact qmL ⟨h1,h16,h32,c33,(by rw[h34];rfl),h35,h36,h37,h38,h39,l,trivial⟩
          ·skip
           rw[show qaa x=true from by grind[qaa,abOk,dupO,inR]]
           exact qmM ⟨h1,h16,h32,c33,(by rw[h34];rfl),h35,h36,h37,h38,h39,l,trivial⟩
       | false=>
        cases h43:((↑(x.outs.map eI).length:Int)==2) with
        | true=>
         obtain⟨y44,hy44⟩:=qag (xs:=x.outs) (i:=0) (by grind[inR,inInt])
         obtain⟨y45,hy45⟩:=qag (xs:=x.outs) (i:=1) (by grind[inR,inInt])
         cases h46:(y44==y45) with
         | true=>
          rw[show qaa x=false from by grind[qaa,abOk,dupO,inR]]
          exact qmN ⟨h1,h16,h32,c33,(by rw[h34];rfl),h35,h36,h37,h43,(by grind[inR,inInt]),(by grind[inR,inInt]),(qac eI hy44),(by grind[inR,inInt]),(by grind[inR,inInt]),(qac eI hy45),h46,trivial⟩
         | false=>
          rcases qaq x hx with⟨hL,l⟩ | ⟨hL,l⟩
          ·skip
           rw[show qaa x=false from by grind[qaa,abOk,dupO,inR]]
           exact qmO ⟨h1,h16,h32,c33,(by rw[h34];rfl),h35,h36,h37,h43,(by grind[inR,inInt]),(by grind[inR,inInt]),(qac eI hy44),(by grind[inR,inInt]),(by grind[inR,inInt]),(qac eI hy45),h46,l,trivial⟩
          ·skip
           rw[show qaa x=true from by grind[qaa,abOk,dupO,inR]]
           exact qmP ⟨h1,h16,h32,c33,(by rw[h34];rfl),h35,h36,h37,h43,(by grind[inR,inInt]),(by grind[inR,inInt]),(qac eI hy44),(by grind[inR,inInt]),(by grind[inR,inInt]),(qac eI hy45),h46,l,trivial⟩
        | false=>
         rcases qaq x hx with⟨hL,l⟩ | ⟨hL,l⟩
         ·skip
          rw[show qaa x=false from by grind[qaa,abOk,dupO,inR]]
          exact qmQ ⟨h1,h16,h32,c33,(by rw[h34];rfl),h35,h36,h37,h43,l,trivial⟩
         ·skip
          rw[show qaa x=true from by grind[qaa,abOk,dupO,inR]]
          exact qmR ⟨h1,h16,h32,c33,(by rw[h34];rfl),h35,h36,h37,h43,l,trivial⟩
    | false=>
     rw[show qaa x=false from by grind[qaa,abOk,dupO,inR]]
     exact qmE ⟨h1,h16,h32,c33,(by rw[h34];rfl),trivial⟩
   | false=>
    cases h47:(x.kind==1) with
    | true=>
     cases h48:(x.a != 0) with
     | true=>
      rw[show qaa x=false from by grind[qaa,abOk,dupO,inR]]
      exact qmS ⟨h1,h16,h32,h47,h47,h48,trivial⟩
     | false=>
      cases h49:(x.b != 0) with
      | true=>
       rw[show qaa x=false from by grind[qaa,abOk,dupO,inR]]
       exact qmT ⟨h1,h16,h32,h47,h47,h48,h49,trivial⟩
      | false=>
       cases h50:(decide ((↑(x.outs.map eI).length:Int)>2)) with
       | true=>
        rw[show qaa x=false from by grind[qaa,abOk,dupO,inR]]
        exact qmU ⟨h1,h16,h32,h47,h47,h48,h49,h50,trivial⟩
       | false=>
        cases h51:(x.kind==8) with
        | true=>
         cases h52:(decide ((↑(x.outs.map eI).length:Int)>0)) with
         | true=>
          rw[show qaa x=false from by grind[qaa,abOk,dupO,inR]]
          exact qmV ⟨h1,h16,h32,h47,h47,h48,h49,h50,h51,h52,trivial⟩
         | false=>
          cases h53:((↑(x.outs.map eI).length:Int)==2) with
          | true=>
           obtain⟨y54,hy54⟩:=qag (xs:=x.outs) (i:=0) (by grind[inR,inInt])
           obtain⟨y55,hy55⟩:=qag (xs:=x.outs) (i:=1) (by grind[inR,inInt])
           cases h56:(y54==y55) with
           | true=>
            rw[show qaa x=false from by grind[qaa,abOk,dupO,inR]]
            exact qmW ⟨h1,h16,h32,h47,h47,h48,h49,h50,h51,h52,h53,(by grind[inR,inInt]),(by grind[inR,inInt]),(qac eI hy54),(by grind[inR,inInt]),(by grind[inR,inInt]),(qac eI hy55),h56,trivial⟩
           | false=>
            rcases qaq x hx with⟨hL,l⟩ | ⟨hL,l⟩
            ·skip
             rw[show qaa x=false from by grind[qaa,abOk,dupO,inR]]
             exact qmX ⟨h1,h16,h32,h47,h47,h48,h49,h50,h51,h52,h53,(by grind[inR,inInt]),(by grind[inR,inInt]),(qac eI hy54),(by grind[inR,inInt]),(by grind[inR,inInt]),(qac eI hy55),h56,l,trivial⟩
            ·skip
             rw[show qaa x=true from by grind[qaa,abOk,dupO,inR]]
             exact qmY ⟨h1,h16,h32,h47,h47,h48,h49,h50,h51,h52,h53,(by grind[inR,inInt]),(by grind[inR,inInt]),(qac eI hy54),(by grind[inR,inInt]),(by grind[inR,inInt]),(qac eI hy55),h56,l,trivial⟩
          | false=>
           rcases qaq x hx with⟨hL,l⟩ | ⟨hL,l⟩
           ·skip
            rw[show qaa x=false from by grind[qaa,abOk,dupO,inR]]
            exact qmZ ⟨h1,h16,h32,h47,h47,h48,h49,h50,h51,h52,h53,l,trivial⟩
           ·skip
            rw[show qaa x=true from by grind[qaa,abOk,dupO,inR]]
            exact qm0 ⟨h1,h16,h32,h47,h47,h48,h49,h50,h51,h52,h53,l,trivial⟩
        | false=>
         cases h57:((↑(x.outs.map eI).length:Int)==2) with
         | true=>
          obtain⟨y58,hy58⟩:=qag (xs:=x.outs) (i:=0) (by grind[inR,inInt])
          obtain⟨y59,hy59⟩:=qag (xs:=x.outs) (i:=1) (by grind[inR,inInt])
          cases h60:(y58==y59) with
          | true=>
           rw[show qaa x=false from by grind[qaa,abOk,dupO,inR]]
           exact qm1 ⟨h1,h16,h32,h47,h47,h48,h49,h50,h51,h57,(by grind[inR,inInt]),(by grind[inR,inInt]),(qac eI hy58),(by grind[inR,inInt]),(by grind[inR,inInt]),(qac eI hy59),h60,trivial⟩
          | false=>
           rcases qaq x hx with⟨hL,l⟩ | ⟨hL,l⟩
           ·skip
            rw[show qaa x=false from by grind[qaa,abOk,dupO,inR]]
            exact qm2 ⟨h1,h16,h32,h47,h47,h48,h49,h50,h51,h57,(by grind[inR,inInt]),(by grind[inR,inInt]),(qac eI hy58),(by grind[inR,inInt]),(by grind[inR,inInt]),(qac eI hy59),h60,l,trivial⟩
           ·skip
            rw[show qaa x=true from by grind[qaa,abOk,dupO,inR]]
            exact qm3 ⟨h1,h16,h32,h47,h47,h48,h49,h50,h51,h57,(by grind[inR,inInt]),(by grind[inR,inInt]),(qac eI hy58),(by grind[inR,inInt]),(by grind[inR,inInt]),(qac eI hy59),h60,l,trivial⟩
         | false=>
          rcases qaq x hx with⟨hL,l⟩ | ⟨hL,l⟩
          ·skip
           rw[show qaa x=false from by grind[qaa,abOk,dupO,inR]]
           exact qm4 ⟨h1,h16,h32,h47,h47,h48,h49,h50,h51,h57,l,trivial⟩
          ·skip
           rw[show qaa x=true from by grind[qaa,abOk,dupO,inR]]
           exact qm5 ⟨h1,h16,h32,h47,h47,h48,h49,h50,h51,h57,l,trivial⟩
    | false=>
     cases h61:(x.kind==5) with
     | true=>
      cases h62:(x.a != 0) with
      | true=>
       rw[show qaa x=false from by grind[qaa,abOk,dupO,inR]]
       exact qm6 ⟨h1,h16,h32,h47,h61,h61,h62,trivial⟩
      | false=>
       cases h63:(x.b != 0) with
       | true=>
        rw[show qaa x=false from by grind[qaa,abOk,dupO,inR]]
        exact qm7 ⟨h1,h16,h32,h47,h61,h61,h62,h63,trivial⟩
       | false=>
        cases h64:(decide ((↑(x.outs.map eI).length:Int)>2)) with
        | true=>
         rw[show qaa x=false from by grind[qaa,abOk,dupO,inR]]
         exact qm8 ⟨h1,h16,h32,h47,h61,h61,h62,h63,h64,trivial⟩
        | false=>
         cases h65:(x.kind==8) with
         | true=>
          cases h66:(decide ((↑(x.outs.map eI).length:Int)>0)) with
          | true=>
           rw[show qaa x=false from by grind[qaa,abOk,dupO,inR]]
           exact qm9 ⟨h1,h16,h32,h47,h61,h61,h62,h63,h64,h65,h66,trivial⟩
          | false=>
           cases h67:((↑(x.outs.map eI).length:Int)==2) with
           | true=>
            obtain⟨y68,hy68⟩:=qag (xs:=x.outs) (i:=0) (by grind[inR,inInt])
            obtain⟨y69,hy69⟩:=qag (xs:=x.outs) (i:=1) (by grind[inR,inInt])
            cases h70:(y68==y69) with
            | true=>
             rw[show qaa x=false from by grind[qaa,abOk,dupO,inR]]
             exact qna ⟨h1,h16,h32,h47,h61,h61,h62,h63,h64,h65,h66,h67,(by grind[inR,inInt]),(by grind[inR,inInt]),(qac eI hy68),(by grind[inR,inInt]),(by grind[inR,inInt]),(qac eI hy69),h70,trivial⟩
            | false=>
             rcases qaq x hx with⟨hL,l⟩ | ⟨hL,l⟩
             ·skip
              rw[show qaa x=false from by grind[qaa,abOk,dupO,inR]]
              exact qnb ⟨h1,h16,h32,h47,h61,h61,h62,h63,h64,h65,h66,h67,(by grind[inR,inInt]),(by grind[inR,inInt]),(qac eI hy68),(by grind[inR,inInt]),(by grind[inR,inInt]),(qac eI hy69),h70,l,trivial⟩
             ·skip
              rw[show qaa x=true from by grind[qaa,abOk,dupO,inR]]
              exact qnc ⟨h1,h16,h32,h47,h61,h61,h62,h63,h64,h65,h66,h67,(by grind[inR,inInt]),(by grind[inR,inInt]),(qac eI hy68),(by grind[inR,inInt]),(by grind[inR,inInt]),(qac eI hy69),h70,l,trivial⟩
           | false=>
            rcases qaq x hx with⟨hL,l⟩ | ⟨hL,l⟩
            ·skip
             rw[show qaa x=false from by grind[qaa,abOk,dupO,inR]]
             exact qnd ⟨h1,h16,h32,h47,h61,h61,h62,h63,h64,h65,h66,h67,l,trivial⟩
            ·skip
             rw[show qaa x=true from by grind[qaa,abOk,dupO,inR]]
             exact qne ⟨h1,h16,h32,h47,h61,h61,h62,h63,h64,h65,h66,h67,l,trivial⟩
         | false=>
          cases h71:((↑(x.outs.map eI).length:Int)==2) with
          | true=>
           obtain⟨y72,hy72⟩:=qag (xs:=x.outs) (i:=0) (by grind[inR,inInt])
           obtain⟨y73,hy73⟩:=qag (xs:=x.outs) (i:=1) (by grind[inR,inInt])
           cases h74:(y72==y73) with
           | true=>
            rw[show qaa x=false from by grind[qaa,abOk,dupO,inR]]
            exact qnf ⟨h1,h16,h32,h47,h61,h61,h62,h63,h64,h65,h71,(by grind[inR,inInt]),(by grind[inR,inInt]),(qac eI hy72),(by grind[inR,inInt]),(by grind[inR,inInt]),(qac eI hy73),h74,trivial⟩
           | false=>
            rcases qaq x hx with⟨hL,l⟩ | ⟨hL,l⟩
            ·skip
             rw[show qaa x=false from by grind[qaa,abOk,dupO,inR]]
             exact qng ⟨h1,h16,h32,h47,h61,h61,h62,h63,h64,h65,h71,(by grind[inR,inInt]),(by grind[inR,inInt]),(qac eI hy72),(by grind[inR,inInt]),(by grind[inR,inInt]),(qac eI hy73),h74,l,trivial⟩
            ·skip
             rw[show qaa x=true from by grind[qaa,abOk,dupO,inR]]
             exact qnh ⟨h1,h16,h32,h47,h61,h61,h62,h63,h64,h65,h71,(by grind[inR,inInt]),(by grind[inR,inInt]),(qac eI hy72),(by grind[inR,inInt]),(by grind[inR,inInt]),(qac eI hy73),h74,l,trivial⟩
          | false=>
           rcases qaq x hx with⟨hL,l⟩ | ⟨hL,l⟩
           ·skip
            rw[show qaa x=false from by grind[qaa,abOk,dupO,inR]]
            exact qni ⟨h1,h16,h32,h47,h61,h61,h62,h63,h64,h65,h71,l,trivial⟩
           ·skip
            rw[show qaa x=true from by grind[qaa,abOk,dupO,inR]]
            exact qnj ⟨h1,h16,h32,h47,h61,h61,h62,h63,h64,h65,h71,l,trivial⟩
     | false=>
      cases h75:(x.kind==6) with
      | true=>
       cases h76:(x.a != 0) with
       | true=>
        rw[show qaa x=false from by grind[qaa,abOk,dupO,inR]]
        exact qnk ⟨h1,h16,h32,h47,h61,h75,h75,h76,trivial⟩
       | false=>
        cases h77:(x.b != 0) with
        | true=>
         rw[show qaa x=false from by grind[qaa,abOk,dupO,inR]]
         exact qnl ⟨h1,h16,h32,h47,h61,h75,h75,h76,h77,trivial⟩
        | false=>
         cases h78:(decide ((↑(x.outs.map eI).length:Int)>2)) with
         | true=>
          rw[show qaa x=false from by grind[qaa,abOk,dupO,inR]]
          exact qnm ⟨h1,h16,h32,h47,h61,h75,h75,h76,h77,h78,trivial⟩
         | false=>
          cases h79:(x.kind==8) with
          | true=>
           cases h80:(decide ((↑(x.outs.map eI).length:Int)>0)) with
           | true=>
            rw[show qaa x=false from by grind[qaa,abOk,dupO,inR]]
            exact qnn ⟨h1,h16,h32,h47,h61,h75,h75,h76,h77,h78,h79,h80,trivial⟩
           | false=>
            cases h81:((↑(x.outs.map eI).length:Int)==2) with
            | true=>
             obtain⟨y82,hy82⟩:=qag (xs:=x.outs) (i:=0) (by grind[inR,inInt])
             obtain⟨y83,hy83⟩:=qag (xs:=x.outs) (i:=1) (by grind[inR,inInt])
             cases h84:(y82==y83) with
             | true=>
              rw[show qaa x=false from by grind[qaa,abOk,dupO,inR]]
              exact qno ⟨h1,h16,h32,h47,h61,h75,h75,h76,h77,h78,h79,h80,h81,(by grind[inR,inInt]),(by grind[inR,inInt]),(qac eI hy82),(by grind[inR,inInt]),(by grind[inR,inInt]),(qac eI hy83),h84,trivial⟩
             | false=>
              rcases qaq x hx with⟨hL,l⟩ | ⟨hL,l⟩
              ·skip
               rw[show qaa x=false from by grind[qaa,abOk,dupO,inR]]
               exact qnp ⟨h1,h16,h32,h47,h61,h75,h75,h76,h77,h78,h79,h80,h81,(by grind[inR,inInt]),(by grind[inR,inInt]),(qac eI hy82),(by grind[inR,inInt]),(by grind[inR,inInt]),(qac eI hy83),h84,l,trivial⟩
              ·skip
               rw[show qaa x=true from by grind[qaa,abOk,dupO,inR]]
               exact qnq ⟨h1,h16,h32,h47,h61,h75,h75,h76,h77,h78,h79,h80,h81,(by grind[inR,inInt]),(by grind[inR,inInt]),(qac eI hy82),(by grind[inR,inInt]),(by grind[inR,inInt]),(qac eI hy83),h84,l,trivial⟩
            | false=>
             rcases qaq x hx with⟨hL,l⟩ | ⟨hL,l⟩
             ·skip
              rw[show qaa x=false from by grind[qaa,abOk,dupO,inR]]
              exact qnr ⟨h1,h16,h32,h47,h61,h75,h75,h76,h77,h78,h79,h80,h81,l,trivial⟩
             ·skip
              rw[show qaa x=true from by grind[qaa,abOk,dupO,inR]]
              exact qns ⟨h1,h16,h32,h47,h61,h75,h75,h76,h77,h78,h79,h80,h81,l,trivial⟩
          | false=>
           cases h85:((↑(x.outs.map eI).length:Int)==2) with
           | true=>
            obtain⟨y86,hy86⟩:=qag (xs:=x.outs) (i:=0) (by grind[inR,inInt])
            obtain⟨y87,hy87⟩:=qag (xs:=x.outs) (i:=1) (by grind[inR,inInt])
            cases h88:(y86==y87) with
            | true=>
             rw[show qaa x=false from by grind[qaa,abOk,dupO,inR]]
             exact qnt ⟨h1,h16,h32,h47,h61,h75,h75,h76,h77,h78,h79,h85,(by grind[inR,inInt]),(by grind[inR,inInt]),(qac eI hy86),(by grind[inR,inInt]),(by grind[inR,inInt]),(qac eI hy87),h88,trivial⟩
            | false=>
             rcases qaq x hx with⟨hL,l⟩ | ⟨hL,l⟩
             ·skip
              rw[show qaa x=false from by grind[qaa,abOk,dupO,inR]]
              exact qnu ⟨h1,h16,h32,h47,h61,h75,h75,h76,h77,h78,h79,h85,(by grind[inR,inInt]),(by grind[inR,inInt]),(qac eI hy86),(by grind[inR,inInt]),(by grind[inR,inInt]),(qac eI hy87),h88,l,trivial⟩
             ·skip
              rw[show qaa x=true from by grind[qaa,abOk,dupO,inR]]
              exact qnv ⟨h1,h16,h32,h47,h61,h75,h75,h76,h77,h78,h79,h85,(by grind[inR,inInt]),(by grind[inR,inInt]),(qac eI hy86),(by grind[inR,inInt]),(by grind[inR,inInt]),(qac eI hy87),h88,l,trivial⟩
           | false=>
            rcases qaq x hx with⟨hL,l⟩ | ⟨hL,l⟩
            ·skip
             rw[show qaa x=false from by grind[qaa,abOk,dupO,inR]]
             exact qnw ⟨h1,h16,h32,h47,h61,h75,h75,h76,h77,h78,h79,h85,l,trivial⟩
            ·skip
             rw[show qaa x=true from by grind[qaa,abOk,dupO,inR]]
             exact qnx ⟨h1,h16,h32,h47,h61,h75,h75,h76,h77,h78,h79,h85,l,trivial⟩
      | false=>
       cases h89:(x.kind==7) with
       | true=>
        cases h90:(x.a != 0) with
        | true=>
         rw[show qaa x=false from by grind[qaa,abOk,dupO,inR]]
         exact qny ⟨h1,h16,h32,h47,h61,h75,h89,h89,h90,trivial⟩
        | false=>
         cases h91:(x.b != 0) with
         | true=>
          rw[show qaa x=false from by grind[qaa,abOk,dupO,inR]]
          exact qnz ⟨h1,h16,h32,h47,h61,h75,h89,h89,h90,h91,trivial⟩
         | false=>
          cases h92:(decide ((↑(x.outs.map eI).length:Int)>2)) with
          | true=>
           rw[show qaa x=false from by grind[qaa,abOk,dupO,inR]]
           exact qnA ⟨h1,h16,h32,h47,h61,h75,h89,h89,h90,h91,h92,trivial⟩
          | false=>
           cases h93:(x.kind==8) with
           | true=>
            cases h94:(decide ((↑(x.outs.map eI).length:Int)>0)) with
            | true=>
             rw[show qaa x=false from by grind[qaa,abOk,dupO,inR]]
             exact qnB ⟨h1,h16,h32,h47,h61,h75,h89,h89,h90,h91,h92,h93,h94,trivial⟩
            | false=>
             cases h95:((↑(x.outs.map eI).length:Int)==2) with
             | true=>
              obtain⟨y96,hy96⟩:=qag (xs:=x.outs) (i:=0) (by grind[inR,inInt])
              obtain⟨y97,hy97⟩:=qag (xs:=x.outs) (i:=1) (by grind[inR,inInt])
              cases h98:(y96==y97) with
              | true=>
               rw[show qaa x=false from by grind[qaa,abOk,dupO,inR]]
               exact qnC ⟨h1,h16,h32,h47,h61,h75,h89,h89,h90,h91,h92,h93,h94,h95,(by grind[inR,inInt]),(by grind[inR,inInt]),(qac eI hy96),(by grind[inR,inInt]),(by grind[inR,inInt]),(qac eI hy97),h98,trivial⟩
              | false=>
               rcases qaq x hx with⟨hL,l⟩ | ⟨hL,l⟩
               ·skip
                rw[show qaa x=false from by grind[qaa,abOk,dupO,inR]]
                exact qnD ⟨h1,h16,h32,h47,h61,h75,h89,h89,h90,h91,h92,h93,h94,h95,(by grind[inR,inInt]),(by grind[inR,inInt]),(qac eI hy96),(by grind[inR,inInt]),(by grind[inR,inInt]),(qac eI hy97),h98,l,trivial⟩
               ·skip
                rw[show qaa x=true from by grind[qaa,abOk,dupO,inR]]
                exact qnE ⟨h1,h16,h32,h47,h61,h75,h89,h89,h90,h91,h92,h93,h94,h95,(by grind[inR,inInt]),(by grind[inR,inInt]),(qac eI hy96),(by grind[inR,inInt]),(by grind[inR,inInt]),(qac eI hy97),h98,l,trivial⟩
             | false=>
              rcases qaq x hx with⟨hL,l⟩ | ⟨hL,l⟩
              ·skip
               rw[show qaa x=false from by grind[qaa,abOk,dupO,inR]]
               exact qnF ⟨h1,h16,h32,h47,h61,h75,h89,h89,h90,h91,h92,h93,h94,h95,l,trivial⟩
              ·skip
               rw[show qaa x=true from by grind[qaa,abOk,dupO,inR]]
               exact qnG ⟨h1,h16,h32,h47,h61,h75,h89,h89,h90,h91,h92,h93,h94,h95,l,trivial⟩
           | false=>
            cases h99:((↑(x.outs.map eI).length:Int)==2) with
            | true=>
             obtain⟨y100,hy100⟩:=qag (xs:=x.outs) (i:=0) (by grind[inR,inInt])
             obtain⟨y101,hy101⟩:=qag (xs:=x.outs) (i:=1) (by grind[inR,inInt])
             cases h102:(y100==y101) with
             | true=>
              rw[show qaa x=false from by grind[qaa,abOk,dupO,inR]]
              exact qnH ⟨h1,h16,h32,h47,h61,h75,h89,h89,h90,h91,h92,h93,h99,(by grind[inR,inInt]),(by grind[inR,inInt]),(qac eI hy100),(by grind[inR,inInt]),(by grind[inR,inInt]),(qac eI hy101),h102,trivial⟩
             | false=>
              rcases qaq x hx with⟨hL,l⟩ | ⟨hL,l⟩
              ·skip
               rw[show qaa x=false from by grind[qaa,abOk,dupO,inR]]
               exact qnI ⟨h1,h16,h32,h47,h61,h75,h89,h89,h90,h91,h92,h93,h99,(by grind[inR,inInt]),(by grind[inR,inInt]),(qac eI hy100),(by grind[inR,inInt]),(by grind[inR,inInt]),(qac eI hy101),h102,l,trivial⟩
              ·skip
               rw[show qaa x=true from by grind[qaa,abOk,dupO,inR]]
               exact qnJ ⟨h1,h16,h32,h47,h61,h75,h89,h89,h90,h91,h92,h93,h99,(by grind[inR,inInt]),(by grind[inR,inInt]),(qac eI hy100),(by grind[inR,inInt]),(by grind[inR,inInt]),(qac eI hy101),h102,l,trivial⟩
            | false=>
             rcases qaq x hx with⟨hL,l⟩ | ⟨hL,l⟩
             ·skip
              rw[show qaa x=false from by grind[qaa,abOk,dupO,inR]]
              exact qnK ⟨h1,h16,h32,h47,h61,h75,h89,h89,h90,h91,h92,h93,h99,l,trivial⟩
             ·skip
              rw[show qaa x=true from by grind[qaa,abOk,dupO,inR]]
              exact qnL ⟨h1,h16,h32,h47,h61,h75,h89,h89,h90,h91,h92,h93,h99,l,trivial⟩
       | false=>
        cases h103:(x.kind==8) with
        | true=>
         cases h104:(x.a != 0) with
         | true=>
          rw[show qaa x=false from by grind[qaa,abOk,dupO,inR]]
          exact qnM ⟨h1,h16,h32,h47,h61,h75,h89,h103,h104,trivial⟩
         | false=>
          cases h105:(x.b != 0) with
          | true=>
           rw[show qaa x=false from by grind[qaa,abOk,dupO,inR]]
           exact qnN ⟨h1,h16,h32,h47,h61,h75,h89,h103,h104,h105,trivial⟩
          | false=>
           cases h106:(decide ((↑(x.outs.map eI).length:Int)>2)) with
           | true=>
            rw[show qaa x=false from by grind[qaa,abOk,dupO,inR]]
            exact qnO ⟨h1,h16,h32,h47,h61,h75,h89,h103,h104,h105,h106,trivial⟩
           | false=>
            cases h107:(decide ((↑(x.outs.map eI).length:Int)>0)) with
            | true=>
             rw[show qaa x=false from by grind[qaa,abOk,dupO,inR]]
             exact qnP ⟨h1,h16,h32,h47,h61,h75,h89,h103,h104,h105,h106,h103,h107,trivial⟩
            | false=>
             cases h108:((↑(x.outs.map eI).length:Int)==2) with
             | true=>
              obtain⟨y109,hy109⟩:=qag (xs:=x.outs) (i:=0) (by grind[inR,inInt])
              obtain⟨y110,hy110⟩:=qag (xs:=x.outs) (i:=1) (by grind[inR,inInt])
              cases h111:(y109==y110) with
              | true=>
               rw[show qaa x=false from by grind[qaa,abOk,dupO,inR]]
               exact qnQ ⟨h1,h16,h32,h47,h61,h75,h89,h103,h104,h105,h106,h103,h107,h108,(by grind[inR,inInt]),(by grind[inR,inInt]),(qac eI hy109),(by grind[inR,inInt]),(by grind[inR,inInt]),(qac eI hy110),h111,trivial⟩
              | false=>
               rcases qaq x hx with⟨hL,l⟩ | ⟨hL,l⟩
               ·skip
                rw[show qaa x=false from by grind[qaa,abOk,dupO,inR]]
                exact qnR ⟨h1,h16,h32,h47,h61,h75,h89,h103,h104,h105,h106,h103,h107,h108,(by grind[inR,inInt]),(by grind[inR,inInt]),(qac eI hy109),(by grind[inR,inInt]),(by grind[inR,inInt]),(qac eI hy110),h111,l,trivial⟩
               ·skip
                rw[show qaa x=true from by grind[qaa,abOk,dupO,inR]]
                exact qnS ⟨h1,h16,h32,h47,h61,h75,h89,h103,h104,h105,h106,h103,h107,h108,(by grind[inR,inInt]),(by grind[inR,inInt]),(qac eI hy109),(by grind[inR,inInt]),(by grind[inR,inInt]),(qac eI hy110),h111,l,trivial⟩
             | false=>
              rcases qaq x hx with⟨hL,l⟩ | ⟨hL,l⟩
              ·skip
               rw[show qaa x=false from by grind[qaa,abOk,dupO,inR]]
               exact qnT ⟨h1,h16,h32,h47,h61,h75,h89,h103,h104,h105,h106,h103,h107,h108,l,trivial⟩
              ·skip
               rw[show qaa x=true from by grind[qaa,abOk,dupO,inR]]
               exact qnU ⟨h1,h16,h32,h47,h61,h75,h89,h103,h104,h105,h106,h103,h107,h108,l,trivial⟩
        | false=>
         rw[show qaa x=false from by grind[qaa,abOk,dupO,inR]]
         exact qnV ⟨h1,h16,h32,h47,h61,h75,h89,h103,trivial⟩
end Go.Proofs.Ytenekpkjlgddnaa
