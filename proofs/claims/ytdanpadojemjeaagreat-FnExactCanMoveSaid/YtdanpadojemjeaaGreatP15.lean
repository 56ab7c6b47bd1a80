/- GraphOk, NodeOk, RecordOk, StampOk, NextTurn: what program and reference compute (the cases were put together by gentree.py). -/
import Derived.Test.YtdanpadojemjeaaGreatP9
import Derived.Test.YtdanpadojemjeaaGreatGQ
import Derived.Test.YtdanpadojemjeaaGreatGR
set_option linter.unusedVariables false
set_option linter.unusedSimpArgs false
namespace Go.Proofs.YtdanpadojemjeaaGreat
open Go.Sx Go.RowKit Go.Proofs.Tryz
def qba(s:Stamp):Bool:=inR s.epoch 0 3&&inR s.turn 0 6
def qaF(k v:Int):Bool:=inR k 0 99&&inR v 0 999
def qaI(r:Record):Bool:=inR r.op 0 7&&qba r.stamp&&qaF r.key r.val
def qaE(s:Stamp):Stamp×Bool:=if qba s&&decide (s.turn<6) then (⟨s.epoch,s.turn+1⟩,true) else (s,false)
def less(a b:Int):Int:=if b<a then b else a
def abOk(x:Node):Bool:=
 if x.kind=2 then inR x.a 0 999&&x.b==0
 else if x.kind=3 then inR x.a 1 10&&inR x.b 0 (IntKind.i64.wrap (x.a-1))
 else if x.kind=4 then inR x.a 0 99&&x.b==0
 else inR x.kind 1 8&&x.a==0&&x.b==0
def okAll(l:List Int):Bool:=!(l.any fun k=>!inR k 0 7)
def dupO(l:List Int):Bool:=decide (l.length=2∧l[0]?=l[1]?)
def qab(x:Node):Bool:=abOk x&&decide (x.outs.length≤2)&&!(x.kind==8&&decide (0<x.outs.length))&&!dupO x.outs&&okAll x.outs
theorem look{α:Type}{xs:List α}{i:Int}(h0:0≤i)(h1:i<xs.length):∃a,xs[i.toNat]?=some a:=qag (by omega)
theorem qad{α:Type}{xs:List α}{i:Nat}{a:α}(f:α→List D)(h:xs[i]?=some a):(xs.map f)[i]?=some (f a):=by simp[h]
theorem qa3(x:Node)(hx:x.outs.length≤8388608):(okAll x.outs=false∧qan prog (qaa f197 0) (qar (x.outs.map eI) 0) .ret (qaT false))∨(okAll x.outs=true∧qan prog (qaa f197 0) (qar (x.outs.map eI) 0) (.exit 1) qaW):=by
 have l:=qaS (P:=prog) (c:=(qaa f197 0)) x.outs (fun k=>!inR k 0 7) (fun i=>qar (x.outs.map eI) i) (X:=fun _ _=>qaT false) qaw (qaf 1)
  (fun i a ha h=>qHx ⟨lt1 (lt_of ha),lt0,lt2 (lt_of ha),qac eI ha,qbF a 0 7,h,up1 (lt_of ha) hx,trivial⟩)
  (fun i a ha h=>qHw ⟨lt1 (lt_of ha),lt0,lt2 (lt_of ha),qac eI ha,qbF a 0 7,h,trivial⟩)
  (qHy ⟨ge1,trivial⟩)
 unfold okAll
 rcases l with⟨_,_,h1,h2⟩ | ⟨i,a,_,_,_,_,h1,h2⟩
 ·exact .inr ⟨by rw[h1];rfl,h2⟩
 ·exact .inl ⟨by rw[h1];rfl,h2⟩
theorem qd8(x:Node)(hx:x.outs.length≤2):((okAll x.outs&&!dupO x.outs)=false∧qan prog (qaa f220 0) (qa9 x.kind x.a x.b (x.outs.map eI) 0) .ret (qc2 false))∨((okAll x.outs&&!dupO x.outs)=true∧qan prog (qaa f220 0) (qa9 x.kind x.a x.b (x.outs.map eI) 0) (.exit 1) qdt):=by
 obtain⟨kd,a,b,outs⟩:=x
 have cl:=fun k=>qbi k 0 7
 match outs,hx with
 | [],_=>exact .inr ⟨rfl,.last (qaf 1) (qlz ⟨rfl,trivial⟩)⟩
 | [k],_=>
  cases h1:inR k 0 7 with
  | false=>exact .inl ⟨by simp[okAll,h1],.last qaw (qly ⟨rfl,by omega,by simp,rfl,cl k,by rw[h1];rfl,trivial⟩)⟩
  | true=>
   refine .inr ⟨by simp[okAll,dupO,h1],.more (qqc ⟨rfl,by omega,by simp,rfl,cl k,by rw[h1];rfl,rfl,⟨by omega,by omega⟩,trivial⟩) (.last (qaf 1) (qlz ⟨rfl,trivial⟩))⟩
 | [k,m],_=>
  cases h1:inR k 0 7 with
  | false=>exact .inl ⟨by simp[okAll,h1],.last qaw (qly ⟨rfl,by omega,by simp,rfl,cl k,by rw[h1];rfl,trivial⟩)⟩
  | true=>
   have first:Tr prog (qaa f220 0) (qa9 kd a b ([k,m].map eI) 0) .normal (qa9 kd a b ([k,m].map eI) (0+1)):=qqc ⟨rfl,by omega,by simp,rfl,cl k,by rw[h1];rfl,rfl,⟨by omega,by omega⟩,trivial⟩
   cases h2:inR m 0 7 with
   | false=>exact .inl ⟨by simp[okAll,h1,h2],.more first (.last qaw (qly ⟨rfl,by omega,by simp,rfl,cl m,by rw[h2];rfl,trivial⟩))⟩
   | true=>
    cases h3:(k==m) with
    | true=>exact .inl ⟨by simp[okAll,dupO,h1,h2]at h3 ⊢;exact h3,.more first (.last qaw (qGU ⟨rfl,by omega,by simp,rfl,cl m,by rw[h2];rfl,rfl,by omega,by simp,rfl,by omega,by simp,rfl,h3,trivial⟩))⟩
    | false=>exact .inr ⟨by simp[okAll,dupO,h1,h2]at h3 ⊢;exact h3,.more first (.more (qGV ⟨rfl,by omega,by simp,rfl,cl m,by rw[h2];rfl,rfl,by omega,by simp,rfl,by omega,by simp,rfl,h3,⟨by omega,by omega⟩,trivial⟩) (.last (qaf 1) (qlz ⟨rfl,trivial⟩)))⟩
theorem qqd(s:Stamp):Rt 221 [.agg s.e] [.one (B (qba s))]:=by
 have c1:=qbi s.epoch 0 3
 cases h2:(inR s.epoch 0 3) with
 | true=>
  have c3:=qbi s.turn 0 6
  rw[show qba s=inR s.turn 0 6 from by grind[qba]]
  exact qGo ⟨c1,h2,c3,trivial⟩
 | false=>
  rw[show qba s=false from by grind[qba]]
  exact qGp ⟨c1,h2,trivial⟩
theorem qqe(s:Stamp):Rt 224 [.agg s.e] [.one (B (qba s))]:=by
 have c1:=qbF s.epoch 0 3
 cases h2:(inR s.epoch 0 3) with
 | true=>
  have c3:=qbF s.turn 0 6
  rw[show qba s=inR s.turn 0 6 from by grind[qba]]
  exact qGq ⟨c1,h2,c3,trivial⟩
 | false=>
  rw[show qba s=false from by grind[qba]]
  exact qGr ⟨c1,h2,trivial⟩
theorem qqf(k v:Int):Rt 225 [.one (I k),.one (I v)] [.one (B (qaF k v))]:=by
 have c1:=qbF k 0 99
 cases h2:(inR k 0 99) with
 | true=>
  have c3:=qbF v 0 999
  rw[show qaF k v=inR v 0 999 from by grind[qaF]]
  exact qGN ⟨c1,h2,c3,trivial⟩
 | false=>
  rw[show qaF k v=false from by grind[qaF]]
  exact qGO ⟨c1,h2,trivial⟩
theorem qfe(r:Record):Rt 164 [.agg r.e] [.one (B (qaI r))]:=by
 have c1:=qbi r.op 0 7
 cases h2:(inR r.op 0 7) with
 | true=>
  have c3:=qqd r.stamp
  cases h4:(qba r.stamp) with
  | true=>
   have c5:=qbi r.key 0 99
   cases h6:(inR r.key 0 99) with
   | true=>
    have c7:=qbi r.val 0 999
    rw[show qaI r=inR r.val 0 999 from by grind[qaI,qaF]]
    exact qGh ⟨c1,h2,c3,h4,c5,h6,c7,trivial⟩
   | false=>
    rw[show qaI r=false from by grind[qaI,qaF]]
    exact qGi ⟨c1,h2,c3,h4,c5,h6,trivial⟩
  | false=>
   rw[show qaI r=false from by grind[qaI,qaF]]
   exact qGj ⟨c1,h2,c3,h4,trivial⟩
 | false=>
  rw[show qaI r=false from by grind[qaI,qaF]]
  exact qGk ⟨c1,h2,trivial⟩
theorem qd9(r:Record):Rt 173 [.agg r.e] [.one (B (qaI r))]:=by
 have c1:=qbF r.op 0 7
 cases h2:(inR r.op 0 7) with
 | true=>
  have c3:=qqe r.stamp
  cases h4:(qba r.stamp) with
  | true=>
   have c5:=qqf r.key r.val
   rw[show qaI r=qaF r.key r.val from by grind[qaI,qaF]]
   exact qGl ⟨c1,h2,c3,h4,c5,trivial⟩
  | false=>
   rw[show qaI r=false from by grind[qaI,qaF]]
   exact qGm ⟨c1,h2,c3,h4,trivial⟩
 | false=>
  rw[show qaI r=false from by grind[qaI,qaF]]
  exact qGn ⟨c1,h2,trivial⟩
theorem qgo(s:Stamp):Rt 238 [.agg s.e] [.agg ((qaE s).1).e,.one (B ((qaE s).2))]:=by
 have c1:=qqd s
 cases h2:(qba s) with
 | true=>
  cases h3:(decide (s.turn≥6)) with
  | true=>
   rw[show qaE s=(s,false) from by grind[qaE,qba,inR]]
   exact qGt ⟨c1,(by rw[h2];rfl),h3,trivial⟩
  | false=>
   rw[show qaE s=((⟨s.epoch,s.turn+1⟩:Stamp),true) from by grind[qaE,qba,inR]]
   exact qGu ⟨c1,(by rw[h2];rfl),h3,(by grind[qba,inR,inInt]),trivial⟩
 | false=>
  rw[show qaE s=(s,false) from by grind[qaE,qba,inR]]
  exact qGs ⟨c1,(by rw[h2];rfl),trivial⟩
theorem qlA(s:Stamp):Rt 241 [.agg s.e] [.agg ((qaE s).1).e,.one (B ((qaE s).2))]:=by
 have c1:=qqe s
 cases h2:(qba s) with
 | true=>
  cases h3:(s.turn==6) with
  | true=>
   rw[show qaE s=(s,false) from by grind[qaE,qba,inR]]
   exact qGw ⟨c1,(by rw[h2];rfl),h3,trivial⟩
  | false=>
   rw[show qaE s=((⟨s.epoch,s.turn+1⟩:Stamp),true) from by grind[qaE,qba,inR]]
   exact qGx ⟨c1,(by rw[h2];rfl),h3,(by grind[qba,inR,inInt]),trivial⟩
 | false=>
  rw[show qaE s=(s,false) from by grind[qaE,qba,inR]]
  exact qGv ⟨c1,(by rw[h2];rfl),trivial⟩
theorem qJe(a b:Int):Rt 247 [.one (I a),.one (I b)] [.one (I (less a b))]:=by
 cases h1:(decide (b<a)) with
 | true=>
  rw[show less a b=b from by grind[less]]
  exact qGL ⟨h1,trivial⟩
 | false=>
  rw[show less a b=a from by grind[less]]
  exact qGM ⟨h1,trivial⟩
theorem qqg(x:Node)(hx:x.outs.length≤8388608):Rt 220 [.agg x.e] [.one (B (qab x))]:=by
 cases h1:(x.kind==2) with
 | true=>
  have c2:=qbi x.a 0 999
  have c3:=qbi x.kind 1 8
  cases h4:(inR x.kind 1 8) with
  | true=>
   cases h5:(inR x.a 0 999) with
   | true=>
    cases h6:(x.b==0) with
    | true=>
     cases h7:(decide ((↑(x.outs.map eI).length:Int)>2)) with
     | true=>
      rw[show qab x=false from by grind[qab,abOk,dupO,inR]]
      exact qGS ⟨h1,c2,c3,(by rw[h4];rfl),(by rw[h5];rfl),(by rw[h6];rfl),h7,trivial⟩
     | false=>
      cases h8:(x.kind==8) with
      | true=>
       cases h9:(decide ((↑(x.outs.map eI).length:Int)>0)) with
       | true=>
        rw[show qab x=false from by grind[qab,abOk,dupO,inR]]
        exact qGT ⟨h1,c2,c3,(by rw[h4];rfl),(by rw[h5];rfl),(by rw[h6];rfl),h7,h8,h9,trivial⟩
       | false=>
        rcases qd8 x (by grind) with⟨hL,l⟩ | ⟨hL,l⟩
        ·skip
         rw[show qab x=false from by grind[qab,abOk,dupO,inR]]
         exact qGW ⟨h1,c2,c3,(by rw[h4];rfl),(by rw[h5];rfl),(by rw[h6];rfl),h7,h8,h9,l,trivial⟩
        ·skip
         rw[show qab x=true from by grind[qab,abOk,dupO,inR]]
         exact qGX ⟨h1,c2,c3,(by rw[h4];rfl),(by rw[h5];rfl),(by rw[h6];rfl),h7,h8,h9,l,trivial⟩
      | false=>
       rcases qd8 x (by grind) with⟨hL,l⟩ | ⟨hL,l⟩
       ·skip
        rw[show qab x=false from by grind[qab,abOk,dupO,inR]]
        exact qGY ⟨h1,c2,c3,(by rw[h4];rfl),(by rw[h5];rfl),(by rw[h6];rfl),h7,h8,l,trivial⟩
       ·skip
        rw[show qab x=true from by grind[qab,abOk,dupO,inR]]
        exact qGZ ⟨h1,c2,c3,(by rw[h4];rfl),(by rw[h5];rfl),(by rw[h6];rfl),h7,h8,l,trivial⟩
    | false=>
     rw[show qab x=false from by grind[qab,abOk,dupO,inR]]
     exact qGR ⟨h1,c2,c3,(by rw[h4];rfl),(by rw[h5];rfl),(by rw[h6];rfl),trivial⟩
   | false=>
    rw[show qab x=false from by grind[qab,abOk,dupO,inR]]
    exact qGQ ⟨h1,c2,c3,(by rw[h4];rfl),(by rw[h5];rfl),trivial⟩
  | false=>
   rw[show qab x=false from by grind[qab,abOk,dupO,inR]]
   exact qGP ⟨h1,c2,c3,(by rw[h4];rfl),trivial⟩
 | false=>
  cases h10:(x.kind==3) with
  | true=>
   have c11:=qbi x.a 1 10
   have c12:=qbi x.b 0 (IntKind.i64.wrap (x.a-1))
   have c13:=qbi x.kind 1 8
   cases h14:(inR x.kind 1 8) with
   | true=>
    cases h15:(inR x.a 1 10) with
    | true=>
     cases h16:(inR x.b 0 (IntKind.i64.wrap (x.a-1))) with
     | true=>
      cases h17:(decide ((↑(x.outs.map eI).length:Int)>2)) with
      | true=>
       rw[show qab x=false from by grind[qab,abOk,dupO,inR]]
       exact qG3 ⟨h1,h10,c11,c12,c13,(by rw[h14];rfl),(by rw[h15];rfl),(by rw[h16];rfl),h17,trivial⟩
      | false=>
       cases h18:(x.kind==8) with
       | true=>
        cases h19:(decide ((↑(x.outs.map eI).length:Int)>0)) with
        | true=>
         rw[show qab x=false from by grind[qab,abOk,dupO,inR]]
         exact qG4 ⟨h1,h10,c11,c12,c13,(by rw[h14];rfl),(by rw[h15];rfl),(by rw[h16];rfl),h17,h18,h19,trivial⟩
        | false=>
         rcases qd8 x (by grind) with⟨hL,l⟩ | ⟨hL,l⟩
         ·skip
          rw[show qab x=false from by grind[qab,abOk,dupO,inR]]
          exact qG5 ⟨h1,h10,c11,c12,c13,(by rw[h14];rfl),(by rw[h15];rfl),(by rw[h16];rfl),h17,h18,h19,l,trivial⟩
         ·skip
          rw[show qab x=true from by grind[qab,abOk,dupO,inR]]
          exact qG6 ⟨h1,h10,c11,c12,c13,(by rw[h14];rfl),(by rw[h15];rfl),(by rw[h16];rfl),h17,h18,h19,l,trivial⟩
       | false=>
        rcases qd8 x (by grind) with⟨hL,l⟩ | ⟨hL,l⟩
        ·skip
         rw[show qab x=false from by grind[qab,abOk,dupO,inR]]
         exact qG7 ⟨h1,h10,c11,c12,c13,(by rw[h14];rfl),(by rw[h15];rfl),(by rw[h16];rfl),h17,h18,l,trivial⟩
        ·skip
         rw[show qab x=true from by grind[qab,abOk,dupO,inR]]
         exact qG8 ⟨h1,h10,c11,c12,c13,(by rw[h14];rfl),(by rw[h15];rfl),(by rw[h16];rfl),h17,h18,l,trivial⟩
     | false=>
      rw[show qab x=false from by grind[qab,abOk,dupO,inR]]
      exact qG2 ⟨h1,h10,c11,c12,c13,(by rw[h14];rfl),(by rw[h15];rfl),(by rw[h16];rfl),trivial⟩
    | false=>
     rw[show qab x=false from by grind[qab,abOk,dupO,inR]]
     exact qG1 ⟨h1,h10,c11,c12,c13,(by rw[h14];rfl),(by rw[h15];rfl),trivial⟩
   | false=>
    rw[show qab x=false from by grind[qab,abOk,dupO,inR]]
    exact qG0 ⟨h1,h10,c11,c12,c13,(by rw[h14];rfl),trivial⟩
  | false=>
   cases h20:(x.kind==4) with
   | true=>
    have c21:=qbi x.a 0 99
    have c22:=qbi x.kind 1 8
    cases h23:(inR x.kind 1 8) with
    | true=>
     cases h24:(inR x.a 0 99) with
     | true=>
      cases h25:(x.b==0) with
      | true=>
       cases h26:(decide ((↑(x.outs.map eI).length:Int)>2)) with
       | true=>
        rw[show qab x=false from by grind[qab,abOk,dupO,inR]]
        exact qHc ⟨h1,h10,h20,c21,c22,(by rw[h23];rfl),(by rw[h24];rfl),(by rw[h25];rfl),h26,trivial⟩
       | false=>
        cases h27:(x.kind==8) with
        | true=>
         cases h28:(decide ((↑(x.outs.map eI).length:Int)>0)) with
         | true=>
          rw[show qab x=false from by grind[qab,abOk,dupO,inR]]
          exact qHd ⟨h1,h10,h20,c21,c22,(by rw[h23];rfl),(by rw[h24];rfl),(by rw[h25];rfl),h26,h27,h28,trivial⟩
         | false=>
          rcases qd8 x (by grind) with⟨hL,l⟩ | ⟨hL,l⟩
          ·skip
           rw[show qab x=false from by grind[qab,abOk,dupO,inR]]
           exact qHe ⟨h1,h10,h20,c21,c22,(by rw[h23];rfl),(by rw[h24];rfl),(by rw[h25];rfl),h26,h27,h28,l,trivial⟩
          ·skip
           rw[show qab x=true from by grind[qab,abOk,dupO,inR]]
           exact qHf ⟨h1,h10,h20,c21,c22,(by rw[h23];rfl),(by rw[h24];rfl),(by rw[h25];rfl),h26,h27,h28,l,trivial⟩
        | false=>
         rcases qd8 x (by grind) with⟨hL,l⟩ | ⟨hL,l⟩
         ·skip
          rw[show qab x=false from by grind[qab,abOk,dupO,inR]]
          exact qHg ⟨h1,h10,h20,c21,c22,(by rw[h23];rfl),(by rw[h24];rfl),(by rw[h25];rfl),h26,h27,l,trivial⟩
         ·skip
          rw[show qab x=true from by grind[qab,abOk,dupO,inR]]
          exact qHh ⟨h1,h10,h20,c21,c22,(by rw[h23];rfl),(by rw[h24];rfl),(by rw[h25];rfl),h26,h27,l,trivial⟩
      | false=>
       rw[show qab x=false from by grind[qab,abOk,dupO,inR]]
       exact qHb ⟨h1,h10,h20,c21,c22,(by rw[h23];rfl),(by rw[h24];rfl),(by rw[h25];rfl),trivial⟩
     | false=>
      rw[show qab x=false from by grind[qab,abOk,dupO,inR]]
      exact qHa ⟨h1,h10,h20,c21,c22,(by rw[h23];rfl),(by rw[h24];rfl),trivial⟩
    | false=>
     rw[show qab x=false from by grind[qab,abOk,dupO,inR]]
     exact qG9 ⟨h1,h10,h20,c21,c22,(by rw[h23];rfl),trivial⟩
   | false=>
    have c29:=qbi x.kind 1 8
    cases h30:(inR x.kind 1 8) with
    | true=>
     cases h31:(x.a==0) with
     | true=>
      cases h32:(x.b==0) with
      | true=>
       cases h33:(decide ((↑(x.outs.map eI).length:Int)>2)) with
       | true=>
        rw[show qab x=false from by grind[qab,abOk,dupO,inR]]
        exact qHl ⟨h1,h10,h20,c29,(by rw[h30];rfl),(by rw[h31];rfl),(by rw[h32];rfl),h33,trivial⟩
       | false=>
        cases h34:(x.kind==8) with
        | true=>
         cases h35:(decide ((↑(x.outs.map eI).length:Int)>0)) with
         | true=>
          rw[show qab x=false from by grind[qab,abOk,dupO,inR]]
          exact qHm ⟨h1,h10,h20,c29,(by rw[h30];rfl),(by rw[h31];rfl),(by rw[h32];rfl),h33,h34,h35,trivial⟩
         | false=>
          rcases qd8 x (by grind) with⟨hL,l⟩ | ⟨hL,l⟩
          ·skip
           rw[show qab x=false from by grind[qab,abOk,dupO,inR]]
           exact qHn ⟨h1,h10,h20,c29,(by rw[h30];rfl),(by rw[h31];rfl),(by rw[h32];rfl),h33,h34,h35,l,trivial⟩
          ·skip
           rw[show qab x=true from by grind[qab,abOk,dupO,inR]]
           exact qHo ⟨h1,h10,h20,c29,(by rw[h30];rfl),(by rw[h31];rfl),(by rw[h32];rfl),h33,h34,h35,l,trivial⟩
        | false=>
         rcases qd8 x (by grind) with⟨hL,l⟩ | ⟨hL,l⟩
         ·skip
          rw[show qab x=false from by grind[qab,abOk,dupO,inR]]
          exact qHp ⟨h1,h10,h20,c29,(by rw[h30];rfl),(by rw[h31];rfl),(by rw[h32];rfl),h33,h34,l,trivial⟩
         ·skip
          rw[show qab x=true from by grind[qab,abOk,dupO,inR]]
          exact qHq ⟨h1,h10,h20,c29,(by rw[h30];rfl),(by rw[h31];rfl),(by rw[h32];rfl),h33,h34,l,trivial⟩
      | false=>
       rw[show qab x=false from by grind[qab,abOk,dupO,inR]]
       exact qHk ⟨h1,h10,h20,c29,(by rw[h30];rfl),(by rw[h31];rfl),(by rw[h32];rfl),trivial⟩
     | false=>
      rw[show qab x=false from by grind[qab,abOk,dupO,inR]]
      exact qHj ⟨h1,h10,h20,c29,(by rw[h30];rfl),(by rw[h31];rfl),trivial⟩
    | false=>
     rw[show qab x=false from by grind[qab,abOk,dupO,inR]]
     exact qHi ⟨h1,h10,h20,c29,(by rw[h30];rfl),trivial⟩
theorem qqh(x:Node)(hx:x.outs.length≤8388608):Rt 197 [.agg x.e] [.one (B (qab x))]:=by
 cases h1:(x.kind==2) with
 | true=>
  have c2:=qbF x.a 0 999
  cases h3:(inR x.a 0 999) with
  | true=>
   cases h4:(x.b != 0) with
   | true=>
    rw[show qab x=false from by grind[qab,abOk,dupO,inR]]
    exact qHs ⟨h1,c2,(by rw[h3];rfl),h4,trivial⟩
   | false=>
    cases h5:(decide ((↑(x.outs.map eI).length:Int)>2)) with
    | true=>
     rw[show qab x=false from by grind[qab,abOk,dupO,inR]]
     exact qHt ⟨h1,c2,(by rw[h3];rfl),h4,h5,trivial⟩
    | false=>
     cases h6:(x.kind==8) with
     | true=>
      cases h7:(decide ((↑(x.outs.map eI).length:Int)>0)) with
      | true=>
       rw[show qab x=false from by grind[qab,abOk,dupO,inR]]
       exact qHu ⟨h1,c2,(by rw[h3];rfl),h4,h5,h6,h7,trivial⟩
      | false=>
       cases h8:((↑(x.outs.map eI).length:Int)==2) with
       | true=>
        obtain⟨y9,hy9⟩:=qag (xs:=x.outs) (i:=0) (by grind[inR,inInt])
        obtain⟨y10,hy10⟩:=qag (xs:=x.outs) (i:=1) (by grind[inR,inInt])
        cases h11:(y9==y10) with
        | true=>
         rw[show qab x=false from by grind[qab,abOk,dupO,inR]]
         exact qHv ⟨h1,c2,(by rw[h3];rfl),h4,h5,h6,h7,h8,(by grind[inR,inInt]),(by grind[inR,inInt]),(qad eI hy9),(by grind[inR,inInt]),(by grind[inR,inInt]),(qad eI hy10),h11,trivial⟩
        | false=>
         rcases qa3 x hx with⟨hL,l⟩ | ⟨hL,l⟩
         ·skip
          rw[show qab x=false from by grind[qab,abOk,dupO,inR]]
          exact qHz ⟨h1,c2,(by rw[h3];rfl),h4,h5,h6,h7,h8,(by grind[inR,inInt]),(by grind[inR,inInt]),(qad eI hy9),(by grind[inR,inInt]),(by grind[inR,inInt]),(qad eI hy10),h11,l,trivial⟩
         ·skip
          rw[show qab x=true from by grind[qab,abOk,dupO,inR]]
          exact qHA ⟨h1,c2,(by rw[h3];rfl),h4,h5,h6,h7,h8,(by grind[inR,inInt]),(by grind[inR,inInt]),(qad eI hy9),(by grind[inR,inInt]),(by grind[inR,inInt]),(qad eI hy10),h11,l,trivial⟩
       | false=>
        rcases qa3 x hx with⟨hL,l⟩ | ⟨hL,l⟩
        ·skip
         rw[show qab x=false from by grind[qab,abOk,dupO,inR]]
         exact qHB ⟨h1,c2,(by rw[h3];rfl),h4,h5,h6,h7,h8,l,trivial⟩
        ·skip
         rw[show qab x=true from by grind[qab,abOk,dupO,inR]]
         exact qHC ⟨h1,c2,(by rw[h3];rfl),h4,h5,h6,h7,h8,l,trivial⟩
     | false=>
      cases h12:((↑(x.outs.map eI).length:Int)==2) with
      | true=>
       obtain⟨y13,hy13⟩:=qag (xs:=x.outs) (i:=0) (by grind[inR,inInt])
       obtain⟨y14,hy14⟩:=qag (xs:=x.outs) (i:=1) (by grind[inR,inInt])
       cases h15:(y13==y14) with
       | true=>
        rw[show qab x=false from by grind[qab,abOk,dupO,inR]]
        exact qHD ⟨h1,c2,(by rw[h3];rfl),h4,h5,h6,h12,(by grind[inR,inInt]),(by grind[inR,inInt]),(qad eI hy13),(by grind[inR,inInt]),(by grind[inR,inInt]),(qad eI hy14),h15,trivial⟩
       | false=>
        rcases qa3 x hx with⟨hL,l⟩ | ⟨hL,l⟩
        ·skip
         rw[show qab x=false from by grind[qab,abOk,dupO,inR]]
         exact qHE ⟨h1,c2,(by rw[h3];rfl),h4,h5,h6,h12,(by grind[inR,inInt]),(by grind[inR,inInt]),(qad eI hy13),(by grind[inR,inInt]),(by grind[inR,inInt]),(qad eI hy14),h15,l,trivial⟩
        ·skip
         rw[show qab x=true from by grind[qab,abOk,dupO,inR]]
         exact qHF ⟨h1,c2,(by rw[h3];rfl),h4,h5,h6,h12,(by grind[inR,inInt]),(by grind[inR,inInt]),(qad eI hy13),(by grind[inR,inInt]),(by grind[inR,inInt]),(qad eI hy14),h15,l,trivial⟩
      | false=>
       rcases qa3 x hx with⟨hL,l⟩ | ⟨hL,l⟩
       ·skip
        rw[show qab x=false from by grind[qab,abOk,dupO,inR]]
        exact qHG ⟨h1,c2,(by rw[h3];rfl),h4,h5,h6,h12,l,trivial⟩
       ·skip
        rw[show qab x=true from by grind[qab,abOk,dupO,inR]]
        exact qHH ⟨h1,c2,(by rw[h3];rfl),h4,h5,h6,h12,l,trivial⟩
  | false=>
   rw[show qab x=false from by grind[qab,abOk,dupO,inR]]
   exact qHr ⟨h1,c2,(by rw[h3];rfl),trivial⟩
 | false=>
  cases h16:(x.kind==3) with
  | true=>
   have c17:=qbF x.a 1 10
   cases h18:(inR x.a 1 10) with
   | true=>
    have c19:=qbF x.b 0 (IntKind.i64.wrap (x.a-1))
    cases h20:(inR x.b 0 (IntKind.i64.wrap (x.a-1))) with
    | true=>
     cases h21:(decide ((↑(x.outs.map eI).length:Int)>2)) with
     | true=>
      rw[show qab x=false from by grind[qab,abOk,dupO,inR]]
      exact qHK ⟨h1,h16,c17,(by rw[h18];rfl),c19,(by rw[h20];rfl),h21,trivial⟩
     | false=>
      cases h22:(x.kind==8) with
      | true=>
       cases h23:(decide ((↑(x.outs.map eI).length:Int)>0)) with
       | true=>
        rw[show qab x=false from by grind[qab,abOk,dupO,inR]]
        exact qHL ⟨h1,h16,c17,(by rw[h18];rfl),c19,(by rw[h20];rfl),h21,h22,h23,trivial⟩
       | false=>
        cases h24:((↑(x.outs.map eI).length:Int)==2) with
        | true=>
         obtain⟨y25,hy25⟩:=qag (xs:=x.outs) (i:=0) (by grind[inR,inInt])
         obtain⟨y26,hy26⟩:=qag (xs:=x.outs) (i:=1) (by grind[inR,inInt])
         cases h27:(y25==y26) with
         | true=>
          rw[show qab x=false from by grind[qab,abOk,dupO,inR]]
          exact qHM ⟨h1,h16,c17,(by rw[h18];rfl),c19,(by rw[h20];rfl),h21,h22,h23,h24,(by grind[inR,inInt]),(by grind[inR,inInt]),(qad eI hy25),(by grind[inR,inInt]),(by grind[inR,inInt]),(qad eI hy26),h27,trivial⟩
         | false=>
          rcases qa3 x hx with⟨hL,l⟩ | ⟨hL,l⟩
          ·skip
           rw[show qab x=false from by grind[qab,abOk,dupO,inR]]
           exact qHN ⟨h1,h16,c17,(by rw[h18];rfl),c19,(by rw[h20];rfl),h21,h22,h23,h24,(by grind[inR,inInt]),(by grind[inR,inInt]),(qad eI hy25),(by grind[inR,inInt]),(by grind[inR,inInt]),(qad eI hy26),h27,l,trivial⟩
          ·skip
           rw[show qab x=true from by grind[qab,abOk,dupO,inR]]
           exact qHO ⟨h1,h16,c17,(by rw[h18];rfl),c19,(by rw[h20];rfl),h21,h22,h23,h24,(by grind[inR,inInt]),(by grind[inR,inInt]),(qad eI hy25),(by grind[inR,inInt]),(by grind[inR,inInt]),(qad eI hy26),h27,l,trivial⟩
        | false=>
         rcases qa3 x hx with⟨hL,l⟩ | ⟨hL,l⟩
         ·skip
          rw[show qab x=false from by grind[qab,abOk,dupO,inR]]
          exact qHP ⟨h1,h16,c17,(by rw[h18];rfl),c19,(by rw[h20];rfl),h21,h22,h23,h24,l,trivial⟩
         ·skip
          rw[show qab x=true from by grind[qab,abOk,dupO,inR]]
          exact qHQ ⟨h1,h16,c17,(by rw[h18];rfl),c19,(by rw[h20];rfl),h21,h22,h23,h24,l,trivial⟩
      | false=>
       cases h28:((↑(x.outs.map eI).length:Int)==2) with
       | true=>
        obtain⟨y29,hy29⟩:=qag (xs:=x.outs) (i:=0) (by grind[inR,inInt])
        obtain⟨y30,hy30⟩:=qag (xs:=x.outs) (i:=1) (by grind[inR,inInt])
        cases h31:(y29==y30) with
        | true=>
         rw[show qab x=false from by grind[qab,abOk,dupO,inR]]
         exact qHR ⟨h1,h16,c17,(by rw[h18];rfl),c19,(by rw[h20];rfl),h21,h22,h28,(by grind[inR,inInt]),(by grind[inR,inInt]),(qad eI hy29),(by grind[inR,inInt]),(by grind[inR,inInt]),(qad eI hy30),h31,trivial⟩
        | false=>
         rcases qa3 x hx with⟨hL,l⟩ | ⟨hL,l⟩
         ·skip
          rw[show qab x=false from by grind[qab,abOk,dupO,inR]]
          exact qHS ⟨h1,h16,c17,(by rw[h18];rfl),c19,(by rw[h20];rfl),h21,h22,h28,(by grind[inR,inInt]),(by grind[inR,inInt]),(qad eI hy29),(by grind[inR,inInt]),(by grind[inR,inInt]),(qad eI hy30),h31,l,trivial⟩
         ·skip
          rw[show qab x=true from by grind[qab,abOk,dupO,inR]]
          exact qHT ⟨h1,h16,c17,(by rw[h18];rfl),c19,(by rw[h20];rfl),h21,h22,h28,(by grind[inR,inInt]),(by grind[inR,inInt]),(qad eI hy29),(by grind[inR,inInt]),(by grind[inR,inInt]),(qad eI hy30),h31,l,trivial⟩
       | false=>
        rcases qa3 x hx with⟨hL,l⟩ | ⟨hL,l⟩
        ·skip
         rw[show qab x=false from by grind[qab,abOk,dupO,inR]]
         exact qHU ⟨h1,h16,c17,(by rw[h18];rfl),c19,(by rw[h20];rfl),h21,h22,h28,l,trivial⟩
        ·skip
         rw[show qab x=true from by grind[qab,abOk,dupO,inR]]
         exact qHV ⟨h1,h16,c17,(by rw[h18];rfl),c19,(by rw[h20];rfl),h21,h22,h28,l,trivial⟩
    | false=>
     rw[show qab x=false from by grind[qab,abOk,dupO,inR]]
     exact qHJ ⟨h1,h16,c17,(by rw[h18];rfl),c19,(by rw[h20];rfl),trivial⟩
   | false=>
    rw[show qab x=false from by grind[qab,abOk,dupO,inR]]
    exact qHI ⟨h1,h16,c17,(by rw[h18];rfl),trivial⟩
  | false=>
   cases h32:(x.kind==4) with
   | true=>
    have c33:=qbF x.a 0 99
    cases h34:(inR x.a 0 99) with
    | true=>
     cases h35:(x.b != 0) with
     | true=>
      rw[show qab x=false from by grind[qab,abOk,dupO,inR]]
      exact qHX ⟨h1,h16,h32,c33,(by rw[h34];rfl),h35,trivial⟩
     | false=>
      cases h36:(decide ((↑(x.outs.map eI).length:Int)>2)) with
      | true=>
       rw[show qab x=false from by grind[qab,abOk,dupO,inR]]
       exact qHY ⟨h1,h16,h32,c33,(by rw[h34];rfl),h35,h36,trivial⟩
      | false=>
       cases h37:(x.kind==8) with
       | true=>
        cases h38:(decide ((↑(x.outs.map eI).length:Int)>0)) with
        | true=>
         rw[show qab x=false from by grind[qab,abOk,dupO,inR]]
         exact qHZ ⟨h1,h16,h32,c33,(by rw[h34];rfl),h35,h36,h37,h38,trivial⟩
        | false=>
         cases h39:((↑(x.outs.map eI).length:Int)==2) with
         | true=>
          obtain⟨y40,hy40⟩:=qag (xs:=x.outs) (i:=0) (by grind[inR,inInt])
          obtain⟨y41,hy41⟩:=qag (xs:=x.outs) (i:=1) (by grind[inR,inInt])
          cases h42:(y40==y41) with
          | true=>
           rw[show qab x=false from by grind[qab,abOk,dupO,inR]]
           exact qH0 ⟨h1,h16,h32,c33,(by rw[h34];rfl),h35,h36,h37,h38,h39,(by grind[inR,inInt]),(by grind[inR,inInt]),(qad eI hy40),(by grind[inR,inInt]),(by grind[inR,inInt]),(qad eI hy41),h42,trivial⟩
          | false=>
           rcases qa3 x hx with⟨hL,l⟩ | ⟨hL,l⟩
           ·skip
            rw[show qab x=false from by grind[qab,abOk,dupO,inR]]
            exact qH1 ⟨h1,h16,h32,c33,(by rw[h34];rfl),h35,h36,h37,h38,h39,(by grind[inR,inInt]),(by grind[inR,inInt]),(qad eI hy40),(by grind[inR,inInt]),(by grind[inR,inInt]),(qad eI hy41),h42,l,trivial⟩
           ·skip
            rw[show qab x=true from by grind[qab,abOk,dupO,inR]]
            exact qH2 ⟨h1,h16,h32,c33,(by rw[h34];rfl),h35,h36,h37,h38,h39,(by grind[inR,inInt]),(by grind[inR,inInt]),(qad eI hy40),(by grind[inR,inInt]),(by grind[inR,inInt]),(qad eI hy41),h42,l,trivial⟩
         | false=>
          rcases qa3 x hx with⟨hL,l⟩ | ⟨hL,l⟩
          ·skip
           rw[show qab x=false from by grind[qab,abOk,dupO,inR]]
           exact qH3 ⟨h1,h16,h32,c33,(by rw[h34];rfl),h35,h36,h37,h38,h39,l,trivial⟩
          ·skip
           rw[show qab x=true from by grind[qab,abOk,dupO,inR]]
           exact qH4 ⟨h1,h16,h32,c33,(by rw[h34];rfl),h35,h36,h37,h38,h39,l,trivial⟩
       | false=>
        cases h43:((↑(x.outs.map eI).length:Int)==2) with
        | true=>
         obtain⟨y44,hy44⟩:=qag (xs:=x.outs) (i:=0) (by grind[inR,inInt])
         obtain⟨y45,hy45⟩:=qag (xs:=x.outs) (i:=1) (by grind[inR,inInt])
         cases h46:(y44==y45) with
         | true=>
          rw[show qab x=false from by grind[qab,abOk,dupO,inR]]
          exact qH5 ⟨h1,h16,h32,c33,(by rw[h34];rfl),h35,h36,h37,h43,(by grind[inR,inInt]),(by grind[inR,inInt]),(qad eI hy44),(by grind[inR,inInt]),(by grind[inR,inInt]),(qad eI hy45),h46,trivial⟩
         | false=>
          rcases qa3 x hx with⟨hL,l⟩ | ⟨hL,l⟩
          ·skip
           rw[show qab x=false from by grind[qab,abOk,dupO,inR]]
           exact qH6 ⟨h1,h16,h32,c33,(by rw[h34];rfl),h35,h36,h37,h43,(by grind[inR,inInt]),(by grind[inR,inInt]),(qad eI hy44),(by grind[inR,inInt]),(by grind[inR,inInt]),(qad eI hy45),h46,l,trivial⟩
          ·skip
           rw[show qab x=true from by grind[qab,abOk,dupO,inR]]
           exact qH7 ⟨h1,h16,h32,c33,(by rw[h34];rfl),h35,h36,h37,h43,(by grind[inR,inInt]),(by grind[inR,inInt]),(qad eI hy44),(by grind[inR,inInt]),(by grind[inR,inInt]),(qad eI hy45),h46,l,trivial⟩
        | false=>
         rcases qa3 x hx with⟨hL,l⟩ | ⟨hL,l⟩
         ·skip
          rw[show qab x=false from by grind[qab,abOk,dupO,inR]]
          exact qH8 ⟨h1,h16,h32,c33,(by rw[h34];rfl),h35,h36,h37,h43,l,trivial⟩
         ·skip
          rw[show qab x=true from by grind[qab,abOk,dupO,inR]]
          exact qH9 ⟨h1,h16,h32,c33,(by rw[h34];rfl),h35,h36,h37,h43,l,trivial⟩
    | false=>
     rw[show qab x=false from by grind[qab,abOk,dupO,inR]]
     exact qHW ⟨h1,h16,h32,c33,(by rw[h34];rfl),trivial⟩
   | false=>
    cases h47:(x.kind==1) with
    | true=>
     cases h48:(x.a != 0) with
     | true=>
      rw[show qab x=false from by grind[qab,abOk,dupO,inR]]
      exact qIa ⟨h1,h16,h32,h47,h47,h48,trivial⟩
     | false=>
      cases h49:(x.b != 0) with
      | true=>
       rw[show qab x=false from by grind[qab,abOk,dupO,inR]]
       exact qIb ⟨h1,h16,h32,h47,h47,h48,h49,trivial⟩
      | false=>
       cases h50:(decide ((↑(x.outs.map eI).length:Int)>2)) with
       | true=>
        rw[show qab x=false from by grind[qab,abOk,dupO,inR]]
        exact qIc ⟨h1,h16,h32,h47,h47,h48,h49,h50,trivial⟩
       | false=>
        cases h51:(x.kind==8) with
        | true=>
         cases h52:(decide ((↑(x.outs.map eI).length:Int)>0)) with
         | true=>
          rw[show qab x=false from by grind[qab,abOk,dupO,inR]]
          exact qId ⟨h1,h16,h32,h47,h47,h48,h49,h50,h51,h52,trivial⟩
         | false=>
          cases h53:((↑(x.outs.map eI).length:Int)==2) with
          | true=>
           obtain⟨y54,hy54⟩:=qag (xs:=x.outs) (i:=0) (by grind[inR,inInt])
           obtain⟨y55,hy55⟩:=qag (xs:=x.outs) (i:=1) (by grind[inR,inInt])
           cases h56:(y54==y55) with
           | true=>
            rw[show qab x=false from by grind[qab,abOk,dupO,inR]]
            exact qIe ⟨h1,h16,h32,h47,h47,h48,h49,h50,h51,h52,h53,(by grind[inR,inInt]),(by grind[inR,inInt]),(qad eI hy54),(by grind[inR,inInt]),(by grind[inR,inInt]),(qad eI hy55),h56,trivial⟩
           | false=>
            rcases qa3 x hx with⟨hL,l⟩ | ⟨hL,l⟩
            ·skip
             rw[show qab x=false from by grind[qab,abOk,dupO,inR]]
             exact qIf ⟨h1,h16,h32,h47,h47,h48,h49,h50,h51,h52,h53,(by grind[inR,inInt]),(by grind[inR,inInt]),(qad eI hy54),(by grind[inR,inInt]),(by grind[inR,inInt]),(qad eI hy55),h56,l,trivial⟩
            ·skip
             rw[show qab x=true from by grind[qab,abOk,dupO,inR]]
             exact qIg ⟨h1,h16,h32,h47,h47,h48,h49,h50,h51,h52,h53,(by grind[inR,inInt]),(by grind[inR,inInt]),(qad eI hy54),(by grind[inR,inInt]),(by grind[inR,inInt]),(qad eI hy55),h56,l,trivial⟩
          | false=>
           rcases qa3 x hx with⟨hL,l⟩ | ⟨hL,l⟩
           ·skip
            rw[show qab x=false from by grind[qab,abOk,dupO,inR]]
            exact qIh ⟨h1,h16,h32,h47,h47,h48,h49,h50,h51,h52,h53,l,trivial⟩
           ·skip
            rw[show qab x=true from by grind[qab,abOk,dupO,inR]]
            exact qIi ⟨h1,h16,h32,h47,h47,h48,h49,h50,h51,h52,h53,l,trivial⟩
        | false=>
         cases h57:((↑(x.outs.map eI).length:Int)==2) with
         | true=>
          obtain⟨y58,hy58⟩:=qag (xs:=x.outs) (i:=0) (by grind[inR,inInt])
          obtain⟨y59,hy59⟩:=qag (xs:=x.outs) (i:=1) (by grind[inR,inInt])
          cases h60:(y58==y59) with
          | true=>
           rw[show qab x=false from by grind[qab,abOk,dupO,inR]]
           exact qIj ⟨h1,h16,h32,h47,h47,h48,h49,h50,h51,h57,(by grind[inR,inInt]),(by grind[inR,inInt]),(qad eI hy58),(by grind[inR,inInt]),(by grind[inR,inInt]),(qad eI hy59),h60,trivial⟩
          | false=>
           rcases qa3 x hx with⟨hL,l⟩ | ⟨hL,l⟩
           ·skip
            rw[show qab x=false from by grind[qab,abOk,dupO,inR]]
            exact qIk ⟨h1,h16,h32,h47,h47,h48,h49,h50,h51,h57,(by grind[inR,inInt]),(by grind[inR,inInt]),(qad eI hy58),(by grind[inR,inInt]),(by grind[inR,inInt]),(qad eI hy59),h60,l,trivial⟩
           ·skip
            rw[show qab x=true from by grind[qab,abOk,dupO,inR]]
            exact qIl ⟨h1,h16,h32,h47,h47,h48,h49,h50,h51,h57,(by grind[inR,inInt]),(by grind[inR,inInt]),(qad eI hy58),(by grind[inR,inInt]),(by grind[inR,inInt]),(qad eI hy59),h60,l,trivial⟩
         | false=>
          rcases qa3 x hx with⟨hL,l⟩ | ⟨hL,l⟩
          ·skip
           rw[show qab x=false from by grind[qab,abOk,dupO,inR]]
           exact qIm ⟨h1,h16,h32,h47,h47,h48,h49,h50,h51,h57,l,trivial⟩
          ·skip
           rw[show qab x=true from by grind[qab,abOk,dupO,inR]]
           exact qIn ⟨h1,h16,h32,h47,h47,h48,h49,h50,h51,h57,l,trivial⟩
    | false=>
     cases h61:(x.kind==5) with
     | true=>
      cases h62:(x.a != 0) with
      | true=>
       rw[show qab x=false from by grind[qab,abOk,dupO,inR]]
       exact qIo ⟨h1,h16,h32,h47,h61,h61,h62,trivial⟩
      | false=>
       cases h63:(x.b != 0) with
       | true=>
        rw[show qab x=false from by grind[qab,abOk,dupO,inR]]
        exact qIp ⟨h1,h16,h32,h47,h61,h61,h62,h63,trivial⟩
       | false=>
        cases h64:(decide ((↑(x.outs.map eI).length:Int)>2)) with
        | true=>
         rw[show qab x=false from by grind[qab,abOk,dupO,inR]]
         exact qIq ⟨h1,h16,h32,h47,h61,h61,h62,h63,h64,trivial⟩
        | false=>
         cases h65:(x.kind==8) with
         | true=>
          cases h66:(decide ((↑(x.outs.map eI).length:Int)>0)) with
          | true=>
           rw[show qab x=false from by grind[qab,abOk,dupO,inR]]
           exact qIr ⟨h1,h16,h32,h47,h61,h61,h62,h63,h64,h65,h66,trivial⟩
          | false=>
           cases h67:((↑(x.outs.map eI).length:Int)==2) with
           | true=>
            obtain⟨y68,hy68⟩:=qag (xs:=x.outs) (i:=0) (by grind[inR,inInt])
            obtain⟨y69,hy69⟩:=qag (xs:=x.outs) (i:=1) (by grind[inR,inInt])
            cases h70:(y68==y69) with
            | true=>
             rw[show qab x=false from by grind[qab,abOk,dupO,inR]]
             exact qIs ⟨h1,h16,h32,h47,h61,h61,h62,h63,h64,h65,h66,h67,(by grind[inR,inInt]),(by grind[inR,inInt]),(qad eI hy68),(by grind[inR,inInt]),(by grind[inR,inInt]),(qad eI hy69),h70,trivial⟩
            | false=>
             rcases qa3 x hx with⟨hL,l⟩ | ⟨hL,l⟩
             ·skip
              rw[show qab x=false from by grind[qab,abOk,dupO,inR]]
              exact qIt ⟨h1,h16,h32,h47,h61,h61,h62,h63,h64,h65,h66,h67,(by grind[inR,inInt]),(by grind[inR,inInt]),(qad eI hy68),(by grind[inR,inInt]),(by grind[inR,inInt]),(qad eI hy69),h70,l,trivial⟩
             ·skip
              rw[show qab x=true from by grind[qab,abOk,dupO,inR]]
              exact qIu ⟨h1,h16,h32,h47,h61,h61,h62,h63,h64,h65,h66,h67,(by grind[inR,inInt]),(by grind[inR,inInt]),(qad eI hy68),(by grind[inR,inInt]),(by grind[inR,inInt]),(qad eI hy69),h70,l,trivial⟩
           | false=>
            rcases qa3 x hx with⟨hL,l⟩ | ⟨hL,l⟩
            ·skip
             rw[show qab x=false from by grind[qab,abOk,dupO,inR]]
             exact qIv ⟨h1,h16,h32,h47,h61,h61,h62,h63,h64,h65,h66,h67,l,trivial⟩
            ·skip
             rw[show qab x=true from by grind[qab,abOk,dupO,inR]]
             exact qIw ⟨h1,h16,h32,h47,h61,h61,h62,h63,h64,h65,h66,h67,l,trivial⟩
         | false=>
          cases h71:((↑(x.outs.map eI).length:Int)==2) with
          | true=>
           obtain⟨y72,hy72⟩:=qag (xs:=x.outs) (i:=0) (by grind[inR,inInt])
           obtain⟨y73,hy73⟩:=qag (xs:=x.outs) (i:=1) (by grind[inR,inInt])
           cases h74:(y72==y73) with
           | true=>
            rw[show qab x=false from by grind[qab,abOk,dupO,inR]]
            exact qIx ⟨h1,h16,h32,h47,h61,h61,h62,h63,h64,h65,h71,(by grind[inR,inInt]),(by grind[inR,inInt]),(qad eI hy72),(by grind[inR,inInt]),(by grind[inR,inInt]),(qad eI hy73),h74,trivial⟩
           | false=>
            rcases qa3 x hx with⟨hL,l⟩ | ⟨hL,l⟩
            ·skip
             rw[show qab x=false from by grind[qab,abOk,dupO,inR]]
             exact qIy ⟨h1,h16,h32,h47,h61,h61,h62,h63,h64,h65,h71,(by grind[inR,inInt]),(by grind[inR,inInt]),(qad eI hy72),(by grind[inR,inInt]),(by grind[inR,inInt]),(qad eI hy73),h74,l,trivial⟩
            ·skip
             rw[show qab x=true from by grind[qab,abOk,dupO,inR]]
             exact qIz ⟨h1,h16,h32,h47,h61,h61,h62,h63,h64,h65,h71,(by grind[inR,inInt]),(by grind[inR,inInt]),(qad eI hy72),(by grind[inR,inInt]),(by grind[inR,inInt]),(qad eI hy73),h74,l,trivial⟩
          | false=>
           rcases qa3 x hx with⟨hL,l⟩ | ⟨hL,l⟩
           ·skip
            rw[show qab x=false from by grind[qab,abOk,dupO,inR]]
            exact qIA ⟨h1,h16,h32,h47,h61,h61,h62,h63,h64,h65,h71,l,trivial⟩
           ·skip
            rw[show qab x=true from by grind[qab,abOk,dupO,inR]]
            exact qIB ⟨h1,h16,h32,h47,h61,h61,h62,h63,h64,h65,h71,l,trivial⟩
     | false=>
      cases h75:(x.kind==6) with
      | true=>
       cases h76:(x.a != 0) with
       | true=>
        rw[show qab x=false from by grind[qab,abOk,dupO,inR]]
        exact qIC ⟨h1,h16,h32,h47,h61,h75,h75,h76,trivial⟩
       | false=>
        cases h77:(x.b != 0) with
        | true=>
         rw[show qab x=false from by grind[qab,abOk,dupO,inR]]
         exact qID ⟨h1,h16,h32,h47,h61,h75,h75,h76,h77,trivial⟩
        | false=>
         cases h78:(decide ((↑(x.outs.map eI).length:Int)>2)) with
         | true=>
          rw[show qab x=false from by grind[qab,abOk,dupO,inR]]
          exact qIE ⟨h1,h16,h32,h47,h61,h75,h75,h76,h77,h78,trivial⟩
         | false=>
          cases h79:(x.kind==8) with
          | true=>
           cases h80:(decide ((↑(x.outs.map eI).length:Int)>0)) with
           | true=>
            rw[show qab x=false from by grind[qab,abOk,dupO,inR]]
            exact qIF ⟨h1,h16,h32,h47,h61,h75,h75,h76,h77,h78,h79,h80,trivial⟩
           | false=>
            cases h81:((↑(x.outs.map eI).length:Int)==2) with
            | true=>
             obtain⟨y82,hy82⟩:=qag (xs:=x.outs) (i:=0) (by grind[inR,inInt])
             obtain⟨y83,hy83⟩:=qag (xs:=x.outs) (i:=1) (by grind[inR,inInt])
             cases h84:(y82==y83) with
             | true=>
              rw[show qab x=false from by grind[qab,abOk,dupO,inR]]
              exact qIG ⟨h1,h16,h32,h47,h61,h75,h75,h76,h77,h78,h79,h80,h81,(by grind[inR,inInt]),(by grind[inR,inInt]),(qad eI hy82),(by grind[inR,inInt]),(by grind[inR,inInt]),(qad eI hy83),h84,trivial⟩
             | false=>
              rcases qa3 x hx with⟨hL,l⟩ | ⟨hL,l⟩
              ·skip
               rw[show qab x=false from by grind[qab,abOk,dupO,inR]]
               exact qIH ⟨h1,h16,h32,h47,h61,h75,h75,h76,h77,h78,h79,h80,h81,(by grind[inR,inInt]),(by grind[inR,inInt]),(qad eI hy82),(by grind[inR,inInt]),(by grind[inR,inInt]),(qad eI hy83),h84,l,trivial⟩
              ·skip
               rw[show qab x=true from by grind[qab,abOk,dupO,inR]]
               exact qII ⟨h1,h16,h32,h47,h61,h75,h75,h76,h77,h78,h79,h80,h81,(by grind[inR,inInt]),(by grind[inR,inInt]),(qad eI hy82),(by grind[inR,inInt]),(by grind[inR,inInt]),(qad eI hy83),h84,l,trivial⟩
            | false=>
             rcases qa3 x hx with⟨hL,l⟩ | ⟨hL,l⟩
             ·skip
              rw[show qab x=false from by grind[qab,abOk,dupO,inR]]
              exact qIJ ⟨h1,h16,h32,h47,h61,h75,h75,h76,h77,h78,h79,h80,h81,l,trivial⟩
             ·skip
              rw[show qab x=true from by grind[qab,abOk,dupO,inR]]
              exact qIK ⟨h1,h16,h32,h47,h61,h75,h75,h76,h77,h78,h79,h80,h81,l,trivial⟩
          | false=>
           cases h85:((↑(x.outs.map eI).length:Int)==2) with
           | true=>
            obtain⟨y86,hy86⟩:=qag (xs:=x.outs) (i:=0) (by grind[inR,inInt])
            obtain⟨y87,hy87⟩:=qag (xs:=x.outs) (i:=1) (by grind[inR,inInt])
            cases h88:(y86==y87) with
            | true=>
             rw[show qab x=false from by grind[qab,abOk,dupO,inR]]
             exact qIL ⟨h1,h16,h32,h47,h61,h75,h75,h76,h77,h78,h79,h85,(by grind[inR,inInt]),(by grind[inR,inInt]),(qad eI hy86),(by grind[inR,inInt]),(by grind[inR,inInt]),(qad eI hy87),h88,trivial⟩
            | false=>
             rcases qa3 x hx with⟨hL,l⟩ | ⟨hL,l⟩
             ·skip
              rw[show qab x=false from by grind[qab,abOk,dupO,inR]]
              exact qIM ⟨h1,h16,h32,h47,h61,h75,h75,h76,h77,h78,h79,h85,(by grind[inR,inInt]),(by grind[inR,inInt]),(qad eI hy86),(by grind[inR,inInt]),(by grind[inR,inInt]),(qad eI hy87),h88,l,trivial⟩
             ·skip
              rw[show qab x=true from by grind[qab,abOk,dupO,inR]]
              exact qIN ⟨h1,h16,h32,h47,h61,h75,h75,h76,h77,h78,h79,h85,(by grind[inR,inInt]),(by grind[inR,inInt]),(qad eI hy86),(by grind[inR,inInt]),(by grind[inR,inInt]),(qad eI hy87),h88,l,trivial⟩
           | false=>
            rcases qa3 x hx with⟨hL,l⟩ | ⟨hL,l⟩
            ·skip
             rw[show qab x=false from by grind[qab,abOk,dupO,inR]]
             exact qIO ⟨h1,h16,h32,h47,h61,h75,h75,h76,h77,h78,h79,h85,l,trivial⟩
            ·skip
             rw[show qab x=true from by grind[qab,abOk,dupO,inR]]
             exact qIP ⟨h1,h16,h32,h47,h61,h75,h75,h76,h77,h78,h79,h85,l,trivial⟩
      | false=>
       cases h89:(x.kind==7) with
       | true=>
        cases h90:(x.a != 0) with
        | true=>
         rw[show qab x=false from by grind[qab,abOk,dupO,inR]]
         exact qIQ ⟨h1,h16,h32,h47,h61,h75,h89,h89,h90,trivial⟩
        | false=>
         cases h91:(x.b != 0) with
         | true=>
          rw[show qab x=false from by grind[qab,abOk,dupO,inR]]
          exact qIR ⟨h1,h16,h32,h47,h61,h75,h89,h89,h90,h91,trivial⟩
         | false=>
          cases h92:(decide ((↑(x.outs.map eI).length:Int)>2)) with
          | true=>
           rw[show qab x=false from by grind[qab,abOk,dupO,inR]]
           exact qIS ⟨h1,h16,h32,h47,h61,h75,h89,h89,h90,h91,h92,trivial⟩
          | false=>
           cases h93:(x.kind==8) with
           | true=>
            cases h94:(decide ((↑(x.outs.map eI).length:Int)>0)) with
            | true=>
             rw[show qab x=false from by grind[qab,abOk,dupO,inR]]
             exact qIT ⟨h1,h16,h32,h47,h61,h75,h89,h89,h90,h91,h92,h93,h94,trivial⟩
            | false=>
             cases h95:((↑(x.outs.map eI).length:Int)==2) with
             | true=>
              obtain⟨y96,hy96⟩:=qag (xs:=x.outs) (i:=0) (by grind[inR,inInt])
              obtain⟨y97,hy97⟩:=qag (xs:=x.outs) (i:=1) (by grind[inR,inInt])
              cases h98:(y96==y97) with
              | true=>
               rw[show qab x=false from by grind[qab,abOk,dupO,inR]]
               exact qIU ⟨h1,h16,h32,h47,h61,h75,h89,h89,h90,h91,h92,h93,h94,h95,(by grind[inR,inInt]),(by grind[inR,inInt]),(qad eI hy96),(by grind[inR,inInt]),(by grind[inR,inInt]),(qad eI hy97),h98,trivial⟩
              | false=>
               rcases qa3 x hx with⟨hL,l⟩ | ⟨hL,l⟩
               ·skip
                rw[show qab x=false from by grind[qab,abOk,dupO,inR]]
                exact qIV ⟨h1,h16,h32,h47,h61,h75,h89,h89,h90,h91,h92,h93,h94,h95,(by grind[inR,inInt]),(by grind[inR,inInt]),(qad eI hy96),(by grind[inR,inInt]),(by grind[inR,inInt]),(qad eI hy97),h98,l,trivial⟩
               ·skip
                rw[show qab x=true from by grind[qab,abOk,dupO,inR]]
                exact qIW ⟨h1,h16,h32,h47,h61,h75,h89,h89,h90,h91,h92,h93,h94,h95,(by grind[inR,inInt]),(by grind[inR,inInt]),(qad eI hy96),(by grind[inR,inInt]),(by grind[inR,inInt]),(qad eI hy97),h98,l,trivial⟩
             | false=>
              rcases qa3 x hx with⟨hL,l⟩ | ⟨hL,l⟩
              ·skip
               rw[show qab x=false from by grind[qab,abOk,dupO,inR]]
               exact qIX ⟨h1,h16,h32,h47,h61,h75,h89,h89,h90,h91,h92,h93,h94,h95,l,trivial⟩
              ·skip
               rw[show qab x=true from by grind[qab,abOk,dupO,inR]]
               exact qIY ⟨h1,h16,h32,h47,h61,h75,h89,h89,h90,h91,h92,h93,h94,h95,l,trivial⟩
           | false=>
            cases h99:((↑(x.outs.map eI).length:Int)==2) with
            | true=>
             obtain⟨y100,hy100⟩:=qag (xs:=x.outs) (i:=0) (by grind[inR,inInt])
             obtain⟨y101,hy101⟩:=qag (xs:=x.outs) (i:=1) (by grind[inR,inInt])
             cases h102:(y100==y101) with
             | true=>
              rw[show qab x=false from by grind[qab,abOk,dupO,inR]]
              exact qIZ ⟨h1,h16,h32,h47,h61,h75,h89,h89,h90,h91,h92,h93,h99,(by grind[inR,inInt]),(by grind[inR,inInt]),(qad eI hy100),(by grind[inR,inInt]),(by grind[inR,inInt]),(qad eI hy101),h102,trivial⟩
             | false=>
              rcases qa3 x hx with⟨hL,l⟩ | ⟨hL,l⟩
              ·skip
               rw[show qab x=false from by grind[qab,abOk,dupO,inR]]
               exact qI0 ⟨h1,h16,h32,h47,h61,h75,h89,h89,h90,h91,h92,h93,h99,(by grind[inR,inInt]),(by grind[inR,inInt]),(qad eI hy100),(by grind[inR,inInt]),(by grind[inR,inInt]),(qad eI hy101),h102,l,trivial⟩
              ·skip
               rw[show qab x=true from by grind[qab,abOk,dupO,inR]]
               exact qI1 ⟨h1,h16,h32,h47,h61,h75,h89,h89,h90,h91,h92,h93,h99,(by grind[inR,inInt]),(by grind[inR,inInt]),(qad eI hy100),(by grind[inR,inInt]),(by grind[inR,inInt]),(qad eI hy101),h102,l,trivial⟩
            | false=>
             rcases qa3 x hx with⟨hL,l⟩ | ⟨hL,l⟩
             ·skip
              rw[show qab x=false from by grind[qab,abOk,dupO,inR]]
              exact qI2 ⟨h1,h16,h32,h47,h61,h75,h89,h89,h90,h91,h92,h93,h99,l,trivial⟩
             ·skip
              rw[show qab x=true from by grind[qab,abOk,dupO,inR]]
              exact qI3 ⟨h1,h16,h32,h47,h61,h75,h89,h89,h90,h91,h92,h93,h99,l,trivial⟩
       | false=>
        cases h103:(x.kind==8) with
        | true=>
         cases h104:(x.a != 0) with
         | true=>
          rw[show qab x=false from by grind[qab,abOk,dupO,inR]]
          exact qI4 ⟨h1,h16,h32,h47,h61,h75,h89,h103,h104,trivial⟩
         | false=>
          cases h105:(x.b != 0) with
          | true=>
           rw[show qab x=false from by grind[qab,abOk,dupO,inR]]
           exact qI5 ⟨h1,h16,h32,h47,h61,h75,h89,h103,h104,h105,trivial⟩
          | false=>
           cases h106:(decide ((↑(x.outs.map eI).length:Int)>2)) with
           | true=>
            rw[show qab x=false from by grind[qab,abOk,dupO,inR]]
            exact qI6 ⟨h1,h16,h32,h47,h61,h75,h89,h103,h104,h105,h106,trivial⟩
           | false=>
            cases h107:(decide ((↑(x.outs.map eI).length:Int)>0)) with
            | true=>
             rw[show qab x=false from by grind[qab,abOk,dupO,inR]]
             exact qI7 ⟨h1,h16,h32,h47,h61,h75,h89,h103,h104,h105,h106,h103,h107,trivial⟩
            | false=>
             cases h108:((↑(x.outs.map eI).length:Int)==2) with
             | true=>
              obtain⟨y109,hy109⟩:=qag (xs:=x.outs) (i:=0) (by grind[inR,inInt])
              obtain⟨y110,hy110⟩:=qag (xs:=x.outs) (i:=1) (by grind[inR,inInt])
              cases h111:(y109==y110) with
              | true=>
               rw[show qab x=false from by grind[qab,abOk,dupO,inR]]
               exact qI8 ⟨h1,h16,h32,h47,h61,h75,h89,h103,h104,h105,h106,h103,h107,h108,(by grind[inR,inInt]),(by grind[inR,inInt]),(qad eI hy109),(by grind[inR,inInt]),(by grind[inR,inInt]),(qad eI hy110),h111,trivial⟩
              | false=>
               rcases qa3 x hx with⟨hL,l⟩ | ⟨hL,l⟩
               ·skip
                rw[show qab x=false from by grind[qab,abOk,dupO,inR]]
                exact qI9 ⟨h1,h16,h32,h47,h61,h75,h89,h103,h104,h105,h106,h103,h107,h108,(by grind[inR,inInt]),(by grind[inR,inInt]),(qad eI hy109),(by grind[inR,inInt]),(by grind[inR,inInt]),(qad eI hy110),h111,l,trivial⟩
               ·skip
                rw[show qab x=true from by grind[qab,abOk,dupO,inR]]
                exact qJa ⟨h1,h16,h32,h47,h61,h75,h89,h103,h104,h105,h106,h103,h107,h108,(by grind[inR,inInt]),(by grind[inR,inInt]),(qad eI hy109),(by grind[inR,inInt]),(by grind[inR,inInt]),(qad eI hy110),h111,l,trivial⟩
             | false=>
              rcases qa3 x hx with⟨hL,l⟩ | ⟨hL,l⟩
              ·skip
               rw[show qab x=false from by grind[qab,abOk,dupO,inR]]
               exact qJb ⟨h1,h16,h32,h47,h61,h75,h89,h103,h104,h105,h106,h103,h107,h108,l,trivial⟩
              ·skip
               rw[show qab x=true from by grind[qab,abOk,dupO,inR]]
               exact qJc ⟨h1,h16,h32,h47,h61,h75,h89,h103,h104,h105,h106,h103,h107,h108,l,trivial⟩
        | false=>
         rw[show qab x=false from by grind[qab,abOk,dupO,inR]]
         exact qJd ⟨h1,h16,h32,h47,h61,h75,h89,h103,trivial⟩
end Go.Proofs.YtdanpadojemjeaaGreat
