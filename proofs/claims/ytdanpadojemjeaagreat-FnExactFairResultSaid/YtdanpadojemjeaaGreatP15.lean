/- GraphOk, NodeOk, RecordOk, StampOk, NextTurn: what program and reference compute (the cases were put together by gentree.py). -/
import Derived.Test.YtdanpadojemjeaaGreatP9
import Derived.Test.YtdanpadojemjeaaGreatGQ
import Derived.Test.YtdanpadojemjeaaGreatGR
set_option linter.unusedVariables false
set_option linter.unusedSimpArgs false
namespace Go.Proofs.YtdanpadojemjeaaGreat
open Go.Sx Go.RowKit Go.Proofs.Tryz
def qa1(s:Stamp):Bool:=inR s.epoch 0 3&&inR s.turn 0 6
def qaB(k v:Int):Bool:=inR k 0 99&&inR v 0 999
def qaC(r:Record):Bool:=inR r.op 0 7&&qa1 r.stamp&&qaB r.key r.val
def qaA(s:Stamp):Stamp×Bool:=if qa1 s&&decide (s.turn<6) then (⟨s.epoch,s.turn+1⟩,true) else (s,false)
def less(a b:Int):Int:=if b<a then b else a
def abOk(x:Node):Bool:=
 if x.kind=2 then inR x.a 0 999&&x.b==0
 else if x.kind=3 then inR x.a 1 10&&inR x.b 0 (IntKind.i64.wrap (x.a-1))
 else if x.kind=4 then inR x.a 0 99&&x.b==0
 else inR x.kind 1 8&&x.a==0&&x.b==0
def okAll(l:List Int):Bool:=!(l.any fun k=>!inR k 0 7)
def dupO(l:List Int):Bool:=decide (l.length=2∧l[0]?=l[1]?)
def qab(x:Node):Bool:=abOk x&&decide (x.outs.length≤2)&&!(x.kind==8&&decide (0<x.outs.length))&&!dupO x.outs&&okAll x.outs
theorem look{α:Type}{xs:List α}{i:Int}(h0:0≤i)(h1:i<xs.length):∃a,xs[i.toNat]?=some a:=qai (by omega)
theorem qad{α:Type}{xs:List α}{i:Nat}{a:α}(f:α→List D)(h:xs[i]?=some a):(xs.map f)[i]?=some (f a):=by simp[h]
theorem qaU(x:Node)(hx:x.outs.length≤8388608):(okAll x.outs=false∧qaj prog (qaa f197 0) (qao (x.outs.map eI) 0) .ret (qaM false))∨(okAll x.outs=true∧qaj prog (qaa f197 0) (qao (x.outs.map eI) 0) (.exit 1) qaP):=by
 have l:=qaL (P:=prog) (c:=(qaa f197 0)) x.outs (fun k=>!inR k 0 7) (fun i=>qao (x.outs.map eI) i) (X:=fun _ _=>qaM false) qat (qaf 1)
  (fun i a ha h=>qEa ⟨lt1 (lt_of ha),lt0,lt2 (lt_of ha),qac eI ha,qbx a 0 7,h,up1 (lt_of ha) hx,trivial⟩)
  (fun i a ha h=>qD9 ⟨lt1 (lt_of ha),lt0,lt2 (lt_of ha),qac eI ha,qbx a 0 7,h,trivial⟩)
  (qEb ⟨ge1,trivial⟩)
 unfold okAll
 rcases l with⟨_,_,h1,h2⟩ | ⟨i,a,_,_,_,_,h1,h2⟩
 ·exact .inr ⟨by rw[h1];rfl,h2⟩
 ·exact .inl ⟨by rw[h1];rfl,h2⟩
theorem qd4(x:Node)(hx:x.outs.length≤2):((okAll x.outs&&!dupO x.outs)=false∧qaj prog (qaa f220 0) (qa0 x.kind x.a x.b (x.outs.map eI) 0) .ret (qcY false))∨((okAll x.outs&&!dupO x.outs)=true∧qaj prog (qaa f220 0) (qa0 x.kind x.a x.b (x.outs.map eI) 0) (.exit 1) qdj):=by
 obtain⟨kd,a,b,outs⟩:=x
 have cl:=fun k=>qa9 k 0 7
 match outs,hx with
 | [],_=>exact .inr ⟨rfl,.last (qaf 1) (qlf ⟨rfl,trivial⟩)⟩
 | [k],_=>
  cases h1:inR k 0 7 with
  | false=>exact .inl ⟨by simp[okAll,h1],.last qat (qle ⟨rfl,by omega,by simp,rfl,cl k,by rw[h1];rfl,trivial⟩)⟩
  | true=>
   refine .inr ⟨by simp[okAll,dupO,h1],.more (qpe ⟨rfl,by omega,by simp,rfl,cl k,by rw[h1];rfl,rfl,⟨by omega,by omega⟩,trivial⟩) (.last (qaf 1) (qlf ⟨rfl,trivial⟩))⟩
 | [k,m],_=>
  cases h1:inR k 0 7 with
  | false=>exact .inl ⟨by simp[okAll,h1],.last qat (qle ⟨rfl,by omega,by simp,rfl,cl k,by rw[h1];rfl,trivial⟩)⟩
  | true=>
   have first:Tr prog (qaa f220 0) (qa0 kd a b ([k,m].map eI) 0) .normal (qa0 kd a b ([k,m].map eI) (0+1)):=qpe ⟨rfl,by omega,by simp,rfl,cl k,by rw[h1];rfl,rfl,⟨by omega,by omega⟩,trivial⟩
   cases h2:inR m 0 7 with
   | false=>exact .inl ⟨by simp[okAll,h1,h2],.more first (.last qat (qle ⟨rfl,by omega,by simp,rfl,cl m,by rw[h2];rfl,trivial⟩))⟩
   | true=>
    cases h3:(k==m) with
    | true=>exact .inl ⟨by simp[okAll,dupO,h1,h2]at h3 ⊢;exact h3,.more first (.last qat (qDx ⟨rfl,by omega,by simp,rfl,cl m,by rw[h2];rfl,rfl,by omega,by simp,rfl,by omega,by simp,rfl,h3,trivial⟩))⟩
    | false=>exact .inr ⟨by simp[okAll,dupO,h1,h2]at h3 ⊢;exact h3,.more first (.more (qDy ⟨rfl,by omega,by simp,rfl,cl m,by rw[h2];rfl,rfl,by omega,by simp,rfl,by omega,by simp,rfl,h3,⟨by omega,by omega⟩,trivial⟩) (.last (qaf 1) (qlf ⟨rfl,trivial⟩)))⟩
theorem qpf(s:Stamp):Rt 221 [.agg s.e] [.one (B (qa1 s))]:=by
 have c1:=qa9 s.epoch 0 3
 cases h2:(inR s.epoch 0 3) with
 | true=>
  have c3:=qa9 s.turn 0 6
  rw[show qa1 s=inR s.turn 0 6 from by grind[qa1]]
  exact qC1 ⟨c1,h2,c3,trivial⟩
 | false=>
  rw[show qa1 s=false from by grind[qa1]]
  exact qC2 ⟨c1,h2,trivial⟩
theorem qpg(s:Stamp):Rt 224 [.agg s.e] [.one (B (qa1 s))]:=by
 have c1:=qbx s.epoch 0 3
 cases h2:(inR s.epoch 0 3) with
 | true=>
  have c3:=qbx s.turn 0 6
  rw[show qa1 s=inR s.turn 0 6 from by grind[qa1]]
  exact qC3 ⟨c1,h2,c3,trivial⟩
 | false=>
  rw[show qa1 s=false from by grind[qa1]]
  exact qC4 ⟨c1,h2,trivial⟩
theorem qph(k v:Int):Rt 225 [.one (I k),.one (I v)] [.one (B (qaB k v))]:=by
 have c1:=qbx k 0 99
 cases h2:(inR k 0 99) with
 | true=>
  have c3:=qbx v 0 999
  rw[show qaB k v=inR v 0 999 from by grind[qaB]]
  exact qDq ⟨c1,h2,c3,trivial⟩
 | false=>
  rw[show qaB k v=false from by grind[qaB]]
  exact qDr ⟨c1,h2,trivial⟩
theorem qdy(r:Record):Rt 164 [.agg r.e] [.one (B (qaC r))]:=by
 have c1:=qa9 r.op 0 7
 cases h2:(inR r.op 0 7) with
 | true=>
  have c3:=qpf r.stamp
  cases h4:(qa1 r.stamp) with
  | true=>
   have c5:=qa9 r.key 0 99
   cases h6:(inR r.key 0 99) with
   | true=>
    have c7:=qa9 r.val 0 999
    rw[show qaC r=inR r.val 0 999 from by grind[qaC,qaB]]
    exact qCU ⟨c1,h2,c3,h4,c5,h6,c7,trivial⟩
   | false=>
    rw[show qaC r=false from by grind[qaC,qaB]]
    exact qCV ⟨c1,h2,c3,h4,c5,h6,trivial⟩
  | false=>
   rw[show qaC r=false from by grind[qaC,qaB]]
   exact qCW ⟨c1,h2,c3,h4,trivial⟩
 | false=>
  rw[show qaC r=false from by grind[qaC,qaB]]
  exact qCX ⟨c1,h2,trivial⟩
theorem qdk(r:Record):Rt 173 [.agg r.e] [.one (B (qaC r))]:=by
 have c1:=qbx r.op 0 7
 cases h2:(inR r.op 0 7) with
 | true=>
  have c3:=qpg r.stamp
  cases h4:(qa1 r.stamp) with
  | true=>
   have c5:=qph r.key r.val
   rw[show qaC r=qaB r.key r.val from by grind[qaC,qaB]]
   exact qCY ⟨c1,h2,c3,h4,c5,trivial⟩
  | false=>
   rw[show qaC r=false from by grind[qaC,qaB]]
   exact qCZ ⟨c1,h2,c3,h4,trivial⟩
 | false=>
  rw[show qaC r=false from by grind[qaC,qaB]]
  exact qC0 ⟨c1,h2,trivial⟩
theorem qf0(s:Stamp):Rt 238 [.agg s.e] [.agg ((qaA s).1).e,.one (B ((qaA s).2))]:=by
 have c1:=qpf s
 cases h2:(qa1 s) with
 | true=>
  cases h3:(decide (s.turn≥6)) with
  | true=>
   rw[show qaA s=(s,false) from by grind[qaA,qa1,inR]]
   exact qC6 ⟨c1,(by rw[h2];rfl),h3,trivial⟩
  | false=>
   rw[show qaA s=((⟨s.epoch,s.turn+1⟩:Stamp),true) from by grind[qaA,qa1,inR]]
   exact qC7 ⟨c1,(by rw[h2];rfl),h3,(by grind[qa1,inR,inInt]),trivial⟩
 | false=>
  rw[show qaA s=(s,false) from by grind[qaA,qa1,inR]]
  exact qC5 ⟨c1,(by rw[h2];rfl),trivial⟩
theorem qlg(s:Stamp):Rt 241 [.agg s.e] [.agg ((qaA s).1).e,.one (B ((qaA s).2))]:=by
 have c1:=qpg s
 cases h2:(qa1 s) with
 | true=>
  cases h3:(s.turn==6) with
  | true=>
   rw[show qaA s=(s,false) from by grind[qaA,qa1,inR]]
   exact qC9 ⟨c1,(by rw[h2];rfl),h3,trivial⟩
  | false=>
   rw[show qaA s=((⟨s.epoch,s.turn+1⟩:Stamp),true) from by grind[qaA,qa1,inR]]
   exact qDa ⟨c1,(by rw[h2];rfl),h3,(by grind[qa1,inR,inInt]),trivial⟩
 | false=>
  rw[show qaA s=(s,false) from by grind[qaA,qa1,inR]]
  exact qC8 ⟨c1,(by rw[h2];rfl),trivial⟩
theorem qFR(a b:Int):Rt 247 [.one (I a),.one (I b)] [.one (I (less a b))]:=by
 cases h1:(decide (b<a)) with
 | true=>
  rw[show less a b=b from by grind[less]]
  exact qDo ⟨h1,trivial⟩
 | false=>
  rw[show less a b=a from by grind[less]]
  exact qDp ⟨h1,trivial⟩
theorem qpi(x:Node)(hx:x.outs.length≤8388608):Rt 220 [.agg x.e] [.one (B (qab x))]:=by
 cases h1:(x.kind==2) with
 | true=>
  have c2:=qa9 x.a 0 999
  have c3:=qa9 x.kind 1 8
  cases h4:(inR x.kind 1 8) with
  | true=>
   cases h5:(inR x.a 0 999) with
   | true=>
    cases h6:(x.b==0) with
    | true=>
     cases h7:(decide ((↑(x.outs.map eI).length:Int)>2)) with
     | true=>
      rw[show qab x=false from by grind[qab,abOk,dupO,inR]]
      exact qDv ⟨h1,c2,c3,(by rw[h4];rfl),(by rw[h5];rfl),(by rw[h6];rfl),h7,trivial⟩
     | false=>
      cases h8:(x.kind==8) with
      | true=>
       cases h9:(decide ((↑(x.outs.map eI).length:Int)>0)) with
       | true=>
        rw[show qab x=false from by grind[qab,abOk,dupO,inR]]
        exact qDw ⟨h1,c2,c3,(by rw[h4];rfl),(by rw[h5];rfl),(by rw[h6];rfl),h7,h8,h9,trivial⟩
       | false=>
        rcases qd4 x (by grind) with⟨hL,l⟩ | ⟨hL,l⟩
        ·skip
         rw[show qab x=false from by grind[qab,abOk,dupO,inR]]
         exact qDz ⟨h1,c2,c3,(by rw[h4];rfl),(by rw[h5];rfl),(by rw[h6];rfl),h7,h8,h9,l,trivial⟩
        ·skip
         rw[show qab x=true from by grind[qab,abOk,dupO,inR]]
         exact qDA ⟨h1,c2,c3,(by rw[h4];rfl),(by rw[h5];rfl),(by rw[h6];rfl),h7,h8,h9,l,trivial⟩
      | false=>
       rcases qd4 x (by grind) with⟨hL,l⟩ | ⟨hL,l⟩
       ·skip
        rw[show qab x=false from by grind[qab,abOk,dupO,inR]]
        exact qDB ⟨h1,c2,c3,(by rw[h4];rfl),(by rw[h5];rfl),(by rw[h6];rfl),h7,h8,l,trivial⟩
       ·skip
        rw[show qab x=true from by grind[qab,abOk,dupO,inR]]
        exact qDC ⟨h1,c2,c3,(by rw[h4];rfl),(by rw[h5];rfl),(by rw[h6];rfl),h7,h8,l,trivial⟩
    | false=>
     rw[show qab x=false from by grind[qab,abOk,dupO,inR]]
     exact qDu ⟨h1,c2,c3,(by rw[h4];rfl),(by rw[h5];rfl),(by rw[h6];rfl),trivial⟩
   | false=>
    rw[show qab x=false from by grind[qab,abOk,dupO,inR]]
    exact qDt ⟨h1,c2,c3,(by rw[h4];rfl),(by rw[h5];rfl),trivial⟩
  | false=>
   rw[show qab x=false from by grind[qab,abOk,dupO,inR]]
   exact qDs ⟨h1,c2,c3,(by rw[h4];rfl),trivial⟩
 | false=>
  cases h10:(x.kind==3) with
  | true=>
   have c11:=qa9 x.a 1 10
   have c12:=qa9 x.b 0 (IntKind.i64.wrap (x.a-1))
   have c13:=qa9 x.kind 1 8
   cases h14:(inR x.kind 1 8) with
   | true=>
    cases h15:(inR x.a 1 10) with
    | true=>
     cases h16:(inR x.b 0 (IntKind.i64.wrap (x.a-1))) with
     | true=>
      cases h17:(decide ((↑(x.outs.map eI).length:Int)>2)) with
      | true=>
       rw[show qab x=false from by grind[qab,abOk,dupO,inR]]
       exact qDG ⟨h1,h10,c11,c12,c13,(by rw[h14];rfl),(by rw[h15];rfl),(by rw[h16];rfl),h17,trivial⟩
      | false=>
       cases h18:(x.kind==8) with
       | true=>
        cases h19:(decide ((↑(x.outs.map eI).length:Int)>0)) with
        | true=>
         rw[show qab x=false from by grind[qab,abOk,dupO,inR]]
         exact qDH ⟨h1,h10,c11,c12,c13,(by rw[h14];rfl),(by rw[h15];rfl),(by rw[h16];rfl),h17,h18,h19,trivial⟩
        | false=>
         rcases qd4 x (by grind) with⟨hL,l⟩ | ⟨hL,l⟩
         ·skip
          rw[show qab x=false from by grind[qab,abOk,dupO,inR]]
          exact qDI ⟨h1,h10,c11,c12,c13,(by rw[h14];rfl),(by rw[h15];rfl),(by rw[h16];rfl),h17,h18,h19,l,trivial⟩
         ·skip
          rw[show qab x=true from by grind[qab,abOk,dupO,inR]]
          exact qDJ ⟨h1,h10,c11,c12,c13,(by rw[h14];rfl),(by rw[h15];rfl),(by rw[h16];rfl),h17,h18,h19,l,trivial⟩
       | false=>
        rcases qd4 x (by grind) with⟨hL,l⟩ | ⟨hL,l⟩
        ·skip
         rw[show qab x=false from by grind[qab,abOk,dupO,inR]]
         exact qDK ⟨h1,h10,c11,c12,c13,(by rw[h14];rfl),(by rw[h15];rfl),(by rw[h16];rfl),h17,h18,l,trivial⟩
        ·skip
         rw[show qab x=true from by grind[qab,abOk,dupO,inR]]
         exact qDL ⟨h1,h10,c11,c12,c13,(by rw[h14];rfl),(by rw[h15];rfl),(by rw[h16];rfl),h17,h18,l,trivial⟩
     | false=>
      rw[show qab x=false from by grind[qab,abOk,dupO,inR]]
      exact qDF ⟨h1,h10,c11,c12,c13,(by rw[h14];rfl),(by rw[h15];rfl),(by rw[h16];rfl),trivial⟩
    | false=>
     rw[show qab x=false from by grind[qab,abOk,dupO,inR]]
     exact qDE ⟨h1,h10,c11,c12,c13,(by rw[h14];rfl),(by rw[h15];rfl),trivial⟩
   | false=>
    rw[show qab x=false from by grind[qab,abOk,dupO,inR]]
    exact qDD ⟨h1,h10,c11,c12,c13,(by rw[h14];rfl),trivial⟩
  | false=>
   cases h20:(x.kind==4) with
   | true=>
    have c21:=qa9 x.a 0 99
    have c22:=qa9 x.kind 1 8
    cases h23:(inR x.kind 1 8) with
    | true=>
     cases h24:(inR x.a 0 99) with
     | true=>
      cases h25:(x.b==0) with
      | true=>
       cases h26:(decide ((↑(x.outs.map eI).length:Int)>2)) with
       | true=>
        rw[show qab x=false from by grind[qab,abOk,dupO,inR]]
        exact qDP ⟨h1,h10,h20,c21,c22,(by rw[h23];rfl),(by rw[h24];rfl),(by rw[h25];rfl),h26,trivial⟩
       | false=>
        cases h27:(x.kind==8) with
        | true=>
         cases h28:(decide ((↑(x.outs.map eI).length:Int)>0)) with
         | true=>
          rw[show qab x=false from by grind[qab,abOk,dupO,inR]]
          exact qDQ ⟨h1,h10,h20,c21,c22,(by rw[h23];rfl),(by rw[h24];rfl),(by rw[h25];rfl),h26,h27,h28,trivial⟩
         | false=>
          rcases qd4 x (by grind) with⟨hL,l⟩ | ⟨hL,l⟩
          ·skip
           rw[show qab x=false from by grind[qab,abOk,dupO,inR]]
           exact qDR ⟨h1,h10,h20,c21,c22,(by rw[h23];rfl),(by rw[h24];rfl),(by rw[h25];rfl),h26,h27,h28,l,trivial⟩
          ·skip
           rw[show qab x=true from by grind[qab,abOk,dupO,inR]]
           exact qDS ⟨h1,h10,h20,c21,c22,(by rw[h23];rfl),(by rw[h24];rfl),(by rw[h25];rfl),h26,h27,h28,l,trivial⟩
        | false=>
         rcases qd4 x (by grind) with⟨hL,l⟩ | ⟨hL,l⟩
         ·skip
          rw[show qab x=false from by grind[qab,abOk,dupO,inR]]
          exact qDT ⟨h1,h10,h20,c21,c22,(by rw[h23];rfl),(by rw[h24];rfl),(by rw[h25];rfl),h26,h27,l,trivial⟩
         ·skip
          rw[show qab x=true from by grind[qab,abOk,dupO,inR]]
          exact qDU ⟨h1,h10,h20,c21,c22,(by rw[h23];rfl),(by rw[h24];rfl),(by rw[h25];rfl),h26,h27,l,trivial⟩
      | false=>
       rw[show qab x=false from by grind[qab,abOk,dupO,inR]]
       exact qDO ⟨h1,h10,h20,c21,c22,(by rw[h23];rfl),(by rw[h24];rfl),(by rw[h25];rfl),trivial⟩
     | false=>
      rw[show qab x=false from by grind[qab,abOk,dupO,inR]]
      exact qDN ⟨h1,h10,h20,c21,c22,(by rw[h23];rfl),(by rw[h24];rfl),trivial⟩
    | false=>
     rw[show qab x=false from by grind[qab,abOk,dupO,inR]]
     exact qDM ⟨h1,h10,h20,c21,c22,(by rw[h23];rfl),trivial⟩
   | false=>
    have c29:=qa9 x.kind 1 8
    cases h30:(inR x.kind 1 8) with
    | true=>
     cases h31:(x.a==0) with
     | true=>
      cases h32:(x.b==0) with
      | true=>
       cases h33:(decide ((↑(x.outs.map eI).length:Int)>2)) with
       | true=>
        rw[show qab x=false from by grind[qab,abOk,dupO,inR]]
        exact qDY ⟨h1,h10,h20,c29,(by rw[h30];rfl),(by rw[h31];rfl),(by rw[h32];rfl),h33,trivial⟩
       | false=>
        cases h34:(x.kind==8) with
        | true=>
         cases h35:(decide ((↑(x.outs.map eI).length:Int)>0)) with
         | true=>
          rw[show qab x=false from by grind[qab,abOk,dupO,inR]]
          exact qDZ ⟨h1,h10,h20,c29,(by rw[h30];rfl),(by rw[h31];rfl),(by rw[h32];rfl),h33,h34,h35,trivial⟩
         | false=>
          rcases qd4 x (by grind) with⟨hL,l⟩ | ⟨hL,l⟩
          ·skip
           rw[show qab x=false from by grind[qab,abOk,dupO,inR]]
           exact qD0 ⟨h1,h10,h20,c29,(by rw[h30];rfl),(by rw[h31];rfl),(by rw[h32];rfl),h33,h34,h35,l,trivial⟩
          ·skip
           rw[show qab x=true from by grind[qab,abOk,dupO,inR]]
           exact qD1 ⟨h1,h10,h20,c29,(by rw[h30];rfl),(by rw[h31];rfl),(by rw[h32];rfl),h33,h34,h35,l,trivial⟩
        | false=>
         rcases qd4 x (by grind) with⟨hL,l⟩ | ⟨hL,l⟩
         ·skip
          rw[show qab x=false from by grind[qab,abOk,dupO,inR]]
          exact qD2 ⟨h1,h10,h20,c29,(by rw[h30];rfl),(by rw[h31];rfl),(by rw[h32];rfl),h33,h34,l,trivial⟩
         ·skip
          rw[show qab x=true from by grind[qab,abOk,dupO,inR]]
          exact qD3 ⟨h1,h10,h20,c29,(by rw[h30];rfl),(by rw[h31];rfl),(by rw[h32];rfl),h33,h34,l,trivial⟩
      | false=>
       rw[show qab x=false from by grind[qab,abOk,dupO,inR]]
       exact qDX ⟨h1,h10,h20,c29,(by rw[h30];rfl),(by rw[h31];rfl),(by rw[h32];rfl),trivial⟩
     | false=>
      rw[show qab x=false from by grind[qab,abOk,dupO,inR]]
      exact qDW ⟨h1,h10,h20,c29,(by rw[h30];rfl),(by rw[h31];rfl),trivial⟩
    | false=>
     rw[show qab x=false from by grind[qab,abOk,dupO,inR]]
     exact qDV ⟨h1,h10,h20,c29,(by rw[h30];rfl),trivial⟩
theorem qpj(x:Node)(hx:x.outs.length≤8388608):Rt 197 [.agg x.e] [.one (B (qab x))]:=by
 cases h1:(x.kind==2) with
 | true=>
  have c2:=qbx x.a 0 999
  cases h3:(inR x.a 0 999) with
  | true=>
   cases h4:(x.b != 0) with
   | true=>
    rw[show qab x=false from by grind[qab,abOk,dupO,inR]]
    exact qD5 ⟨h1,c2,(by rw[h3];rfl),h4,trivial⟩
   | false=>
    cases h5:(decide ((↑(x.outs.map eI).length:Int)>2)) with
    | true=>
     rw[show qab x=false from by grind[qab,abOk,dupO,inR]]
     exact qD6 ⟨h1,c2,(by rw[h3];rfl),h4,h5,trivial⟩
    | false=>
     cases h6:(x.kind==8) with
     | true=>
      cases h7:(decide ((↑(x.outs.map eI).length:Int)>0)) with
      | true=>
       rw[show qab x=false from by grind[qab,abOk,dupO,inR]]
       exact qD7 ⟨h1,c2,(by rw[h3];rfl),h4,h5,h6,h7,trivial⟩
      | false=>
       cases h8:((↑(x.outs.map eI).length:Int)==2) with
       | true=>
        obtain⟨y9,hy9⟩:=qai (xs:=x.outs) (i:=0) (by grind[inR,inInt])
        obtain⟨y10,hy10⟩:=qai (xs:=x.outs) (i:=1) (by grind[inR,inInt])
        cases h11:(y9==y10) with
        | true=>
         rw[show qab x=false from by grind[qab,abOk,dupO,inR]]
         exact qD8 ⟨h1,c2,(by rw[h3];rfl),h4,h5,h6,h7,h8,(by grind[inR,inInt]),(by grind[inR,inInt]),(qad eI hy9),(by grind[inR,inInt]),(by grind[inR,inInt]),(qad eI hy10),h11,trivial⟩
        | false=>
         rcases qaU x hx with⟨hL,l⟩ | ⟨hL,l⟩
         ·skip
          rw[show qab x=false from by grind[qab,abOk,dupO,inR]]
          exact qEc ⟨h1,c2,(by rw[h3];rfl),h4,h5,h6,h7,h8,(by grind[inR,inInt]),(by grind[inR,inInt]),(qad eI hy9),(by grind[inR,inInt]),(by grind[inR,inInt]),(qad eI hy10),h11,l,trivial⟩
         ·skip
          rw[show qab x=true from by grind[qab,abOk,dupO,inR]]
          exact qEd ⟨h1,c2,(by rw[h3];rfl),h4,h5,h6,h7,h8,(by grind[inR,inInt]),(by grind[inR,inInt]),(qad eI hy9),(by grind[inR,inInt]),(by grind[inR,inInt]),(qad eI hy10),h11,l,trivial⟩
       | false=>
        rcases qaU x hx with⟨hL,l⟩ | ⟨hL,l⟩
        ·skip
         rw[show qab x=false from by grind[qab,abOk,dupO,inR]]
         exact qEe ⟨h1,c2,(by rw[h3];rfl),h4,h5,h6,h7,h8,l,trivial⟩
        ·skip
         rw[show qab x=true from by grind[qab,abOk,dupO,inR]]
         exact qEf ⟨h1,c2,(by rw[h3];rfl),h4,h5,h6,h7,h8,l,trivial⟩
     | false=>
      cases h12:((↑(x.outs.map eI).length:Int)==2) with
      | true=>
       obtain⟨y13,hy13⟩:=qai (xs:=x.outs) (i:=0) (by grind[inR,inInt])
       obtain⟨y14,hy14⟩:=qai (xs:=x.outs) (i:=1) (by grind[inR,inInt])
       cases h15:(y13==y14) with
       | true=>
        rw[show qab x=false from by grind[qab,abOk,dupO,inR]]
        exact qEg ⟨h1,c2,(by rw[h3];rfl),h4,h5,h6,h12,(by grind[inR,inInt]),(by grind[inR,inInt]),(qad eI hy13),(by grind[inR,inInt]),(by grind[inR,inInt]),(qad eI hy14),h15,trivial⟩
       | false=>
        rcases qaU x hx with⟨hL,l⟩ | ⟨hL,l⟩
        ·skip
         rw[show qab x=false from by grind[qab,abOk,dupO,inR]]
         exact qEh ⟨h1,c2,(by rw[h3];rfl),h4,h5,h6,h12,(by grind[inR,inInt]),(by grind[inR,inInt]),(qad eI hy13),(by grind[inR,inInt]),(by grind[inR,inInt]),(qad eI hy14),h15,l,trivial⟩
        ·skip
         rw[show qab x=true from by grind[qab,abOk,dupO,inR]]
         exact qEi ⟨h1,c2,(by rw[h3];rfl),h4,h5,h6,h12,(by grind[inR,inInt]),(by grind[inR,inInt]),(qad eI hy13),(by grind[inR,inInt]),(by grind[inR,inInt]),(qad eI hy14),h15,l,trivial⟩
      | false=>
       rcases qaU x hx with⟨hL,l⟩ | ⟨hL,l⟩
       ·skip
        rw[show qab x=false from by grind[qab,abOk,dupO,inR]]
        exact qEj ⟨h1,c2,(by rw[h3];rfl),h4,h5,h6,h12,l,trivial⟩
       ·skip
        rw[show qab x=true from by grind[qab,abOk,dupO,inR]]
        exact qEk ⟨h1,c2,(by rw[h3];rfl),h4,h5,h6,h12,l,trivial⟩
  | false=>
   rw[show qab x=false from by grind[qab,abOk,dupO,inR]]
   exact qD4 ⟨h1,c2,(by rw[h3];rfl),trivial⟩
 | false=>
  cases h16:(x.kind==3) with
  | true=>
   have c17:=qbx x.a 1 10
   cases h18:(inR x.a 1 10) with
   | true=>
    have c19:=qbx x.b 0 (IntKind.i64.wrap (x.a-1))
    cases h20:(inR x.b 0 (IntKind.i64.wrap (x.a-1))) with
    | true=>
     cases h21:(decide ((↑(x.outs.map eI).length:Int)>2)) with
     | true=>
      rw[show qab x=false from by grind[qab,abOk,dupO,inR]]
      exact qEn ⟨h1,h16,c17,(by rw[h18];rfl),c19,(by rw[h20];rfl),h21,trivial⟩
     | false=>
      cases h22:(x.kind==8) with
      | true=>
       cases h23:(decide ((↑(x.outs.map eI).length:Int)>0)) with
       | true=>
        rw[show qab x=false from by grind[qab,abOk,dupO,inR]]
        exact qEo ⟨h1,h16,c17,(by rw[h18];rfl),c19,(by rw[h20];rfl),h21,h22,h23,trivial⟩
       | false=>
        cases h24:((↑(x.outs.map eI).length:Int)==2) with
        | true=>
         obtain⟨y25,hy25⟩:=qai (xs:=x.outs) (i:=0) (by grind[inR,inInt])
         obtain⟨y26,hy26⟩:=qai (xs:=x.outs) (i:=1) (by grind[inR,inInt])
         cases h27:(y25==y26) with
         | true=>
          rw[show qab x=false from by grind[qab,abOk,dupO,inR]]
          exact qEp ⟨h1,h16,c17,(by rw[h18];rfl),c19,(by rw[h20];rfl),h21,h22,h23,h24,(by grind[inR,inInt]),(by grind[inR,inInt]),(qad eI hy25),(by grind[inR,inInt]),(by grind[inR,inInt]),(qad eI hy26),h27,trivial⟩
         | false=>
          rcases qaU x hx with⟨hL,l⟩ | ⟨hL,l⟩
          ·skip
           rw[show qab x=false from by grind[qab,abOk,dupO,inR]]
           exact qEq ⟨h1,h16,c17,(by rw[h18];rfl),c19,(by rw[h20];rfl),h21,h22,h23,h24,(by grind[inR,inInt]),(by grind[inR,inInt]),(qad eI hy25),(by grind[inR,inInt]),(by grind[inR,inInt]),(qad eI hy26),h27,l,trivial⟩
          ·skip
           rw[show qab x=true from by grind[qab,abOk,dupO,inR]]
           exact qEr ⟨h1,h16,c17,(by rw[h18];rfl),c19,(by rw[h20];rfl),h21,h22,h23,h24,(by grind[inR,inInt]),(by grind[inR,inInt]),(qad eI hy25),(by grind[inR,inInt]),(by grind[inR,inInt]),(qad eI hy26),h27,l,trivial⟩
        | false=>
         rcases qaU x hx with⟨hL,l⟩ | ⟨hL,l⟩
         ·skip
          rw[show qab x=false from by grind[qab,abOk,dupO,inR]]
          exact qEs ⟨h1,h16,c17,(by rw[h18];rfl),c19,(by rw[h20];rfl),h21,h22,h23,h24,l,trivial⟩
         ·skip
          rw[show qab x=true from by grind[qab,abOk,dupO,inR]]
          exact qEt ⟨h1,h16,c17,(by rw[h18];rfl),c19,(by rw[h20];rfl),h21,h22,h23,h24,l,trivial⟩
      | false=>
       cases h28:((↑(x.outs.map eI).length:Int)==2) with
       | true=>
        obtain⟨y29,hy29⟩:=qai (xs:=x.outs) (i:=0) (by grind[inR,inInt])
        obtain⟨y30,hy30⟩:=qai (xs:=x.outs) (i:=1) (by grind[inR,inInt])
        cases h31:(y29==y30) with
        | true=>
         rw[show qab x=false from by grind[qab,abOk,dupO,inR]]
         exact qEu ⟨h1,h16,c17,(by rw[h18];rfl),c19,(by rw[h20];rfl),h21,h22,h28,(by grind[inR,inInt]),(by grind[inR,inInt]),(qad eI hy29),(by grind[inR,inInt]),(by grind[inR,inInt]),(qad eI hy30),h31,trivial⟩
        | false=>
         rcases qaU x hx with⟨hL,l⟩ | ⟨hL,l⟩
         ·skip
          rw[show qab x=false from by grind[qab,abOk,dupO,inR]]
          exact qEv ⟨h1,h16,c17,(by rw[h18];rfl),c19,(by rw[h20];rfl),h21,h22,h28,(by grind[inR,inInt]),(by grind[inR,inInt]),(qad eI hy29),(by grind[inR,inInt]),(by grind[inR,inInt]),(qad eI hy30),h31,l,trivial⟩
         ·skip
          rw[show qab x=true from by grind[qab,abOk,dupO,inR]]
          exact qEw ⟨h1,h16,c17,(by rw[h18];rfl),c19,(by rw[h20];rfl),h21,h22,h28,(by grind[inR,inInt]),(by grind[inR,inInt]),(qad eI hy29),(by grind[inR,inInt]),(by grind[inR,inInt]),(qad eI hy30),h31,l,trivial⟩
       | false=>
        rcases qaU x hx with⟨hL,l⟩ | ⟨hL,l⟩
        ·skip
         rw[show qab x=false from by grind[qab,abOk,dupO,inR]]
         exact qEx ⟨h1,h16,c17,(by rw[h18];rfl),c19,(by rw[h20];rfl),h21,h22,h28,l,trivial⟩
        ·skip
         rw[show qab x=true from by grind[qab,abOk,dupO,inR]]
         exact qEy ⟨h1,h16,c17,(by rw[h18];rfl),c19,(by rw[h20];rfl),h21,h22,h28,l,trivial⟩
    | false=>
     rw[show qab x=false from by grind[qab,abOk,dupO,inR]]
     exact qEm ⟨h1,h16,c17,(by rw[h18];rfl),c19,(by rw[h20];rfl),trivial⟩
   | false=>
    rw[show qab x=false from by grind[qab,abOk,dupO,inR]]
    exact qEl ⟨h1,h16,c17,(by rw[h18];rfl),trivial⟩
  | false=>
   cases h32:(x.kind==4) with
   | true=>
    have c33:=qbx x.a 0 99
    cases h34:(inR x.a 0 99) with
    | true=>
     cases h35:(x.b != 0) with
     | true=>
      rw[show qab x=false from by grind[qab,abOk,dupO,inR]]
      exact qEA ⟨h1,h16,h32,c33,(by rw[h34];rfl),h35,trivial⟩
     | false=>
      cases h36:(decide ((↑(x.outs.map eI).length:Int)>2)) with
      | true=>
       rw[show qab x=false from by grind[qab,abOk,dupO,inR]]
       exact qEB ⟨h1,h16,h32,c33,(by rw[h34];rfl),h35,h36,trivial⟩
      | false=>
       cases h37:(x.kind==8) with
       | true=>
        cases h38:(decide ((↑(x.outs.map eI).length:Int)>0)) with
        | true=>
         rw[show qab x=false from by grind[qab,abOk,dupO,inR]]
         exact qEC ⟨h1,h16,h32,c33,(by rw[h34];rfl),h35,h36,h37,h38,trivial⟩
        | false=>
         cases h39:((↑(x.outs.map eI).length:Int)==2) with
         | true=>
          obtain⟨y40,hy40⟩:=qai (xs:=x.outs) (i:=0) (by grind[inR,inInt])
          obtain⟨y41,hy41⟩:=qai (xs:=x.outs) (i:=1) (by grind[inR,inInt])
          cases h42:(y40==y41) with
          | true=>
           rw[show qab x=false from by grind[qab,abOk,dupO,inR]]
           exact qED ⟨h1,h16,h32,c33,(by rw[h34];rfl),h35,h36,h37,h38,h39,(by grind[inR,inInt]),(by grind[inR,inInt]),(qad eI hy40),(by grind[inR,inInt]),(by grind[inR,inInt]),(qad eI hy41),h42,trivial⟩
          | false=>
           rcases qaU x hx with⟨hL,l⟩ | ⟨hL,l⟩
           ·skip
            rw[show qab x=false from by grind[qab,abOk,dupO,inR]]
            exact qEE ⟨h1,h16,h32,c33,(by rw[h34];rfl),h35,h36,h37,h38,h39,(by grind[inR,inInt]),(by grind[inR,inInt]),(qad eI hy40),(by grind[inR,inInt]),(by grind[inR,inInt]),(qad eI hy41),h42,l,trivial⟩
           ·skip
            rw[show qab x=true from by grind[qab,abOk,dupO,inR]]
            exact qEF ⟨h1,h16,h32,c33,(by rw[h34];rfl),h35,h36,h37,h38,h39,(by grind[inR,inInt]),(by grind[inR,inInt]),(qad eI hy40),(by grind[inR,inInt]),(by grind[inR,inInt]),(qad eI hy41),h42,l,trivial⟩
         | false=>
          rcases qaU x hx with⟨hL,l⟩ | ⟨hL,l⟩
          ·skip
           rw[show qab x=false from by grind[qab,abOk,dupO,inR]]
           exact qEG ⟨h1,h16,h32,c33,(by rw[h34];rfl),h35,h36,h37,h38,h39,l,trivial⟩
          ·skip
           rw[show qab x=true from by grind[qab,abOk,dupO,inR]]
           exact qEH ⟨h1,h16,h32,c33,(by rw[h34];rfl),h35,h36,h37,h38,h39,l,trivial⟩
       | false=>
        cases h43:((↑(x.outs.map eI).length:Int)==2) with
        | true=>
         obtain⟨y44,hy44⟩:=qai (xs:=x.outs) (i:=0) (by grind[inR,inInt])
         obtain⟨y45,hy45⟩:=qai (xs:=x.outs) (i:=1) (by grind[inR,inInt])
         cases h46:(y44==y45) with
         | true=>
          rw[show qab x=false from by grind[qab,abOk,dupO,inR]]
          exact qEI ⟨h1,h16,h32,c33,(by rw[h34];rfl),h35,h36,h37,h43,(by grind[inR,inInt]),(by grind[inR,inInt]),(qad eI hy44),(by grind[inR,inInt]),(by grind[inR,inInt]),(qad eI hy45),h46,trivial⟩
         | false=>
          rcases qaU x hx with⟨hL,l⟩ | ⟨hL,l⟩
          ·skip
           rw[show qab x=false from by grind[qab,abOk,dupO,inR]]
           exact qEJ ⟨h1,h16,h32,c33,(by rw[h34];rfl),h35,h36,h37,h43,(by grind[inR,inInt]),(by grind[inR,inInt]),(qad eI hy44),(by grind[inR,inInt]),(by grind[inR,inInt]),(qad eI hy45),h46,l,trivial⟩
          ·skip
           rw[show qab x=true from by grind[qab,abOk,dupO,inR]]
           exact qEK ⟨h1,h16,h32,c33,(by rw[h34];rfl),h35,h36,h37,h43,(by grind[inR,inInt]),(by grind[inR,inInt]),(qad eI hy44),(by grind[inR,inInt]),(by grind[inR,inInt]),(qad eI hy45),h46,l,trivial⟩
        | false=>
         rcases qaU x hx with⟨hL,l⟩ | ⟨hL,l⟩
         ·skip
          rw[show qab x=false from by grind[qab,abOk,dupO,inR]]
          exact qEL ⟨h1,h16,h32,c33,(by rw[h34];rfl),h35,h36,h37,h43,l,trivial⟩
         ·skip
          rw[show qab x=true from by grind[qab,abOk,dupO,inR]]
          exact qEM ⟨h1,h16,h32,c33,(by rw[h34];rfl),h35,h36,h37,h43,l,trivial⟩
    | false=>
     rw[show qab x=false from by grind[qab,abOk,dupO,inR]]
     exact qEz ⟨h1,h16,h32,c33,(by rw[h34];rfl),trivial⟩
   | false=>
    cases h47:(x.kind==1) with
    | true=>
     cases h48:(x.a != 0) with
     | true=>
      rw[show qab x=false from by grind[qab,abOk,dupO,inR]]
      exact qEN ⟨h1,h16,h32,h47,h47,h48,trivial⟩
     | false=>
      cases h49:(x.b != 0) with
      | true=>
       rw[show qab x=false from by grind[qab,abOk,dupO,inR]]
       exact qEO ⟨h1,h16,h32,h47,h47,h48,h49,trivial⟩
      | false=>
       cases h50:(decide ((↑(x.outs.map eI).length:Int)>2)) with
       | true=>
        rw[show qab x=false from by grind[qab,abOk,dupO,inR]]
        exact qEP ⟨h1,h16,h32,h47,h47,h48,h49,h50,trivial⟩
       | false=>
        cases h51:(x.kind==8) with
        | true=>
         cases h52:(decide ((↑(x.outs.map eI).length:Int)>0)) with
         | true=>
          rw[show qab x=false from by grind[qab,abOk,dupO,inR]]
          exact qEQ ⟨h1,h16,h32,h47,h47,h48,h49,h50,h51,h52,trivial⟩
         | false=>
          cases h53:((↑(x.outs.map eI).length:Int)==2) with
          | true=>
           obtain⟨y54,hy54⟩:=qai (xs:=x.outs) (i:=0) (by grind[inR,inInt])
           obtain⟨y55,hy55⟩:=qai (xs:=x.outs) (i:=1) (by grind[inR,inInt])
           cases h56:(y54==y55) with
           | true=>
            rw[show qab x=false from by grind[qab,abOk,dupO,inR]]
            exact qER ⟨h1,h16,h32,h47,h47,h48,h49,h50,h51,h52,h53,(by grind[inR,inInt]),(by grind[inR,inInt]),(qad eI hy54),(by grind[inR,inInt]),(by grind[inR,inInt]),(qad eI hy55),h56,trivial⟩
           | false=>
            rcases qaU x hx with⟨hL,l⟩ | ⟨hL,l⟩
            ·skip
             rw[show qab x=false from by grind[qab,abOk,dupO,inR]]
             exact qES ⟨h1,h16,h32,h47,h47,h48,h49,h50,h51,h52,h53,(by grind[inR,inInt]),(by grind[inR,inInt]),(qad eI hy54),(by grind[inR,inInt]),(by grind[inR,inInt]),(qad eI hy55),h56,l,trivial⟩
            ·skip
             rw[show qab x=true from by grind[qab,abOk,dupO,inR]]
             exact qET ⟨h1,h16,h32,h47,h47,h48,h49,h50,h51,h52,h53,(by grind[inR,inInt]),(by grind[inR,inInt]),(qad eI hy54),(by grind[inR,inInt]),(by grind[inR,inInt]),(qad eI hy55),h56,l,trivial⟩
          | false=>
           rcases qaU x hx with⟨hL,l⟩ | ⟨hL,l⟩
           ·skip
            rw[show qab x=false from by grind[qab,abOk,dupO,inR]]
            exact qEU ⟨h1,h16,h32,h47,h47,h48,h49,h50,h51,h52,h53,l,trivial⟩
           ·skip
            rw[show qab x=true from by grind[qab,abOk,dupO,inR]]
            exact qEV ⟨h1,h16,h32,h47,h47,h48,h49,h50,h51,h52,h53,l,trivial⟩
        | false=>
         cases h57:((↑(x.outs.map eI).length:Int)==2) with
         | true=>
          obtain⟨y58,hy58⟩:=qai (xs:=x.outs) (i:=0) (by grind[inR,inInt])
          obtain⟨y59,hy59⟩:=qai (xs:=x.outs) (i:=1) (by grind[inR,inInt])
          cases h60:(y58==y59) with
          | true=>
           rw[show qab x=false from by grind[qab,abOk,dupO,inR]]
           exact qEW ⟨h1,h16,h32,h47,h47,h48,h49,h50,h51,h57,(by grind[inR,inInt]),(by grind[inR,inInt]),(qad eI hy58),(by grind[inR,inInt]),(by grind[inR,inInt]),(qad eI hy59),h60,trivial⟩
          | false=>
           rcases qaU x hx with⟨hL,l⟩ | ⟨hL,l⟩
           ·skip
            rw[show qab x=false from by grind[qab,abOk,dupO,inR]]
            exact qEX ⟨h1,h16,h32,h47,h47,h48,h49,h50,h51,h57,(by grind[inR,inInt]),(by grind[inR,inInt]),(qad eI hy58),(by grind[inR,inInt]),(by grind[inR,inInt]),(qad eI hy59),h60,l,trivial⟩
           ·skip
            rw[show qab x=true from by grind[qab,abOk,dupO,inR]]
            exact qEY ⟨h1,h16,h32,h47,h47,h48,h49,h50,h51,h57,(by grind[inR,inInt]),(by grind[inR,inInt]),(qad eI hy58),(by grind[inR,inInt]),(by grind[inR,inInt]),(qad eI hy59),h60,l,trivial⟩
         | false=>
          rcases qaU x hx with⟨hL,l⟩ | ⟨hL,l⟩
          ·skip
           rw[show qab x=false from by grind[qab,abOk,dupO,inR]]
           exact qEZ ⟨h1,h16,h32,h47,h47,h48,h49,h50,h51,h57,l,trivial⟩
          ·skip
           rw[show qab x=true from by grind[qab,abOk,dupO,inR]]
           exact qE0 ⟨h1,h16,h32,h47,h47,h48,h49,h50,h51,h57,l,trivial⟩
    | false=>
     cases h61:(x.kind==5) with
     | true=>
      cases h62:(x.a != 0) with
      | true=>
       rw[show qab x=false from by grind[qab,abOk,dupO,inR]]
       exact qE1 ⟨h1,h16,h32,h47,h61,h61,h62,trivial⟩
      | false=>
       cases h63:(x.b != 0) with
       | true=>
        rw[show qab x=false from by grind[qab,abOk,dupO,inR]]
        exact qE2 ⟨h1,h16,h32,h47,h61,h61,h62,h63,trivial⟩
       | false=>
        cases h64:(decide ((↑(x.outs.map eI).length:Int)>2)) with
        | true=>
         rw[show qab x=false from by grind[qab,abOk,dupO,inR]]
         exact qE3 ⟨h1,h16,h32,h47,h61,h61,h62,h63,h64,trivial⟩
        | false=>
         cases h65:(x.kind==8) with
         | true=>
          cases h66:(decide ((↑(x.outs.map eI).length:Int)>0)) with
          | true=>
           rw[show qab x=false from by grind[qab,abOk,dupO,inR]]
           exact qE4 ⟨h1,h16,h32,h47,h61,h61,h62,h63,h64,h65,h66,trivial⟩
          | false=>
           cases h67:((↑(x.outs.map eI).length:Int)==2) with
           | true=>
            obtain⟨y68,hy68⟩:=qai (xs:=x.outs) (i:=0) (by grind[inR,inInt])
            obtain⟨y69,hy69⟩:=qai (xs:=x.outs) (i:=1) (by grind[inR,inInt])
            cases h70:(y68==y69) with
            | true=>
             rw[show qab x=false from by grind[qab,abOk,dupO,inR]]
             exact qE5 ⟨h1,h16,h32,h47,h61,h61,h62,h63,h64,h65,h66,h67,(by grind[inR,inInt]),(by grind[inR,inInt]),(qad eI hy68),(by grind[inR,inInt]),(by grind[inR,inInt]),(qad eI hy69),h70,trivial⟩
            | false=>
             rcases qaU x hx with⟨hL,l⟩ | ⟨hL,l⟩
             ·skip
              rw[show qab x=false from by grind[qab,abOk,dupO,inR]]
              exact qE6 ⟨h1,h16,h32,h47,h61,h61,h62,h63,h64,h65,h66,h67,(by grind[inR,inInt]),(by grind[inR,inInt]),(qad eI hy68),(by grind[inR,inInt]),(by grind[inR,inInt]),(qad eI hy69),h70,l,trivial⟩
             ·skip
              rw[show qab x=true from by grind[qab,abOk,dupO,inR]]
              exact qE7 ⟨h1,h16,h32,h47,h61,h61,h62,h63,h64,h65,h66,h67,(by grind[inR,inInt]),(by grind[inR,inInt]),(qad eI hy68),(by grind[inR,inInt]),(by grind[inR,inInt]),(qad eI hy69),h70,l,trivial⟩
           | false=>
            rcases qaU x hx with⟨hL,l⟩ | ⟨hL,l⟩
            ·skip
             rw[show qab x=false from by grind[qab,abOk,dupO,inR]]
             exact qE8 ⟨h1,h16,h32,h47,h61,h61,h62,h63,h64,h65,h66,h67,l,trivial⟩
            ·skip
             rw[show qab x=true from by grind[qab,abOk,dupO,inR]]
             exact qE9 ⟨h1,h16,h32,h47,h61,h61,h62,h63,h64,h65,h66,h67,l,trivial⟩
         | false=>
          cases h71:((↑(x.outs.map eI).length:Int)==2) with
          | true=>
           obtain⟨y72,hy72⟩:=qai (xs:=x.outs) (i:=0) (by grind[inR,inInt])
           obtain⟨y73,hy73⟩:=qai (xs:=x.outs) (i:=1) (by grind[inR,inInt])
           cases h74:(y72==y73) with
           | true=>
            rw[show qab x=false from by grind[qab,abOk,dupO,inR]]
            exact qFa ⟨h1,h16,h32,h47,h61,h61,h62,h63,h64,h65,h71,(by grind[inR,inInt]),(by grind[inR,inInt]),(qad eI hy72),(by grind[inR,inInt]),(by grind[inR,inInt]),(qad eI hy73),h74,trivial⟩
           | false=>
            rcases qaU x hx with⟨hL,l⟩ | ⟨hL,l⟩
            ·skip
             rw[show qab x=false from by grind[qab,abOk,dupO,inR]]
             exact qFb ⟨h1,h16,h32,h47,h61,h61,h62,h63,h64,h65,h71,(by grind[inR,inInt]),(by grind[inR,inInt]),(qad eI hy72),(by grind[inR,inInt]),(by grind[inR,inInt]),(qad eI hy73),h74,l,trivial⟩
            ·skip
             rw[show qab x=true from by grind[qab,abOk,dupO,inR]]
             exact qFc ⟨h1,h16,h32,h47,h61,h61,h62,h63,h64,h65,h71,(by grind[inR,inInt]),(by grind[inR,inInt]),(qad eI hy72),(by grind[inR,inInt]),(by grind[inR,inInt]),(qad eI hy73),h74,l,trivial⟩
          | false=>
           rcases qaU x hx with⟨hL,l⟩ | ⟨hL,l⟩
           ·skip
            rw[show qab x=false from by grind[qab,abOk,dupO,inR]]
            exact qFd ⟨h1,h16,h32,h47,h61,h61,h62,h63,h64,h65,h71,l,trivial⟩
           ·skip
            rw[show qab x=true from by grind[qab,abOk,dupO,inR]]
            exact qFe ⟨h1,h16,h32,h47,h61,h61,h62,h63,h64,h65,h71,l,trivial⟩
     | false=>
      cases h75:(x.kind==6) with
      | true=>
       cases h76:(x.a != 0) with
       | true=>
        rw[show qab x=false from by grind[qab,abOk,dupO,inR]]
        exact qFf ⟨h1,h16,h32,h47,h61,h75,h75,h76,trivial⟩
       | false=>
        cases h77:(x.b != 0) with
        | true=>
         rw[show qab x=false from by grind[qab,abOk,dupO,inR]]
         exact qFg ⟨h1,h16,h32,h47,h61,h75,h75,h76,h77,trivial⟩
        | false=>
         cases h78:(decide ((↑(x.outs.map eI).length:Int)>2)) with
         | true=>
          rw[show qab x=false from by grind[qab,abOk,dupO,inR]]
          exact qFh ⟨h1,h16,h32,h47,h61,h75,h75,h76,h77,h78,trivial⟩
         | false=>
          cases h79:(x.kind==8) with
          | true=>
           cases h80:(decide ((↑(x.outs.map eI).length:Int)>0)) with
           | true=>
            rw[show qab x=false from by grind[qab,abOk,dupO,inR]]
            exact qFi ⟨h1,h16,h32,h47,h61,h75,h75,h76,h77,h78,h79,h80,trivial⟩
           | false=>
            cases h81:((↑(x.outs.map eI).length:Int)==2) with
            | true=>
             obtain⟨y82,hy82⟩:=qai (xs:=x.outs) (i:=0) (by grind[inR,inInt])
             obtain⟨y83,hy83⟩:=qai (xs:=x.outs) (i:=1) (by grind[inR,inInt])
             cases h84:(y82==y83) with
             | true=>
              rw[show qab x=false from by grind[qab,abOk,dupO,inR]]
              exact qFj ⟨h1,h16,h32,h47,h61,h75,h75,h76,h77,h78,h79,h80,h81,(by grind[inR,inInt]),(by grind[inR,inInt]),(qad eI hy82),(by grind[inR,inInt]),(by grind[inR,inInt]),(qad eI hy83),h84,trivial⟩
             | false=>
              rcases qaU x hx with⟨hL,l⟩ | ⟨hL,l⟩
              ·skip
               rw[show qab x=false from by grind[qab,abOk,dupO,inR]]
               exact qFk ⟨h1,h16,h32,h47,h61,h75,h75,h76,h77,h78,h79,h80,h81,(by grind[inR,inInt]),(by grind[inR,inInt]),(qad eI hy82),(by grind[inR,inInt]),(by grind[inR,inInt]),(qad eI hy83),h84,l,trivial⟩
              ·skip
               rw[show qab x=true from by grind[qab,abOk,dupO,inR]]
               exact qFl ⟨h1,h16,h32,h47,h61,h75,h75,h76,h77,h78,h79,h80,h81,(by grind[inR,inInt]),(by grind[inR,inInt]),(qad eI hy82),(by grind[inR,inInt]),(by grind[inR,inInt]),(qad eI hy83),h84,l,trivial⟩
            | false=>
             rcases qaU x hx with⟨hL,l⟩ | ⟨hL,l⟩
             ·skip
              rw[show qab x=false from by grind[qab,abOk,dupO,inR]]
              exact qFm ⟨h1,h16,h32,h47,h61,h75,h75,h76,h77,h78,h79,h80,h81,l,trivial⟩
             ·skip
              rw[show qab x=true from by grind[qab,abOk,dupO,inR]]
              exact qFn ⟨h1,h16,h32,h47,h61,h75,h75,h76,h77,h78,h79,h80,h81,l,trivial⟩
          | false=>
           cases h85:((↑(x.outs.map eI).length:Int)==2) with
           | true=>
            obtain⟨y86,hy86⟩:=qai (xs:=x.outs) (i:=0) (by grind[inR,inInt])
            obtain⟨y87,hy87⟩:=qai (xs:=x.outs) (i:=1) (by grind[inR,inInt])
            cases h88:(y86==y87) with
            | true=>
             rw[show qab x=false from by grind[qab,abOk,dupO,inR]]
             exact qFo ⟨h1,h16,h32,h47,h61,h75,h75,h76,h77,h78,h79,h85,(by grind[inR,inInt]),(by grind[inR,inInt]),(qad eI hy86),(by grind[inR,inInt]),(by grind[inR,inInt]),(qad eI hy87),h88,trivial⟩
            | false=>
             rcases qaU x hx with⟨hL,l⟩ | ⟨hL,l⟩
             ·skip
              rw[show qab x=false from by grind[qab,abOk,dupO,inR]]
              exact qFp ⟨h1,h16,h32,h47,h61,h75,h75,h76,h77,h78,h79,h85,(by grind[inR,inInt]),(by grind[inR,inInt]),(qad eI hy86),(by grind[inR,inInt]),(by grind[inR,inInt]),(qad eI hy87),h88,l,trivial⟩
             ·skip
              rw[show qab x=true from by grind[qab,abOk,dupO,inR]]
              exact qFq ⟨h1,h16,h32,h47,h61,h75,h75,h76,h77,h78,h79,h85,(by grind[inR,inInt]),(by grind[inR,inInt]),(qad eI hy86),(by grind[inR,inInt]),(by grind[inR,inInt]),(qad eI hy87),h88,l,trivial⟩
           | false=>
            rcases qaU x hx with⟨hL,l⟩ | ⟨hL,l⟩
            ·skip
             rw[show qab x=false from by grind[qab,abOk,dupO,inR]]
             exact qFr ⟨h1,h16,h32,h47,h61,h75,h75,h76,h77,h78,h79,h85,l,trivial⟩
            ·skip
             rw[show qab x=true from by grind[qab,abOk,dupO,inR]]
             exact qFs ⟨h1,h16,h32,h47,h61,h75,h75,h76,h77,h78,h79,h85,l,trivial⟩
      | false=>
       cases h89:(x.kind==7) with
       | true=>
        cases h90:(x.a != 0) with
        | true=>
         rw[show qab x=false from by grind[qab,abOk,dupO,inR]]
         exact qFt ⟨h1,h16,h32,h47,h61,h75,h89,h89,h90,trivial⟩
        | false=>
         cases h91:(x.b != 0) with
         | true=>
          rw[show qab x=false from by grind[qab,abOk,dupO,inR]]
          exact qFu ⟨h1,h16,h32,h47,h61,h75,h89,h89,h90,h91,trivial⟩
         | false=>
          cases h92:(decide ((↑(x.outs.map eI).length:Int)>2)) with
          | true=>
           rw[show qab x=false from by grind[qab,abOk,dupO,inR]]
           exact qFv ⟨h1,h16,h32,h47,h61,h75,h89,h89,h90,h91,h92,trivial⟩
          | false=>
           cases h93:(x.kind==8) with
           | true=>
            cases h94:(decide ((↑(x.outs.map eI).length:Int)>0)) with
            | true=>
             rw[show qab x=false from by grind[qab,abOk,dupO,inR]]
             exact qFw ⟨h1,h16,h32,h47,h61,h75,h89,h89,h90,h91,h92,h93,h94,trivial⟩
            | false=>
             cases h95:((↑(x.outs.map eI).length:Int)==2) with
             | true=>
              obtain⟨y96,hy96⟩:=qai (xs:=x.outs) (i:=0) (by grind[inR,inInt])
              obtain⟨y97,hy97⟩:=qai (xs:=x.outs) (i:=1) (by grind[inR,inInt])
              cases h98:(y96==y97) with
              | true=>
               rw[show qab x=false from by grind[qab,abOk,dupO,inR]]
               exact qFx ⟨h1,h16,h32,h47,h61,h75,h89,h89,h90,h91,h92,h93,h94,h95,(by grind[inR,inInt]),(by grind[inR,inInt]),(qad eI hy96),(by grind[inR,inInt]),(by grind[inR,inInt]),(qad eI hy97),h98,trivial⟩
              | false=>
               rcases qaU x hx with⟨hL,l⟩ | ⟨hL,l⟩
               ·skip
                rw[show qab x=false from by grind[qab,abOk,dupO,inR]]
                exact qFy ⟨h1,h16,h32,h47,h61,h75,h89,h89,h90,h91,h92,h93,h94,h95,(by grind[inR,inInt]),(by grind[inR,inInt]),(qad eI hy96),(by grind[inR,inInt]),(by grind[inR,inInt]),(qad eI hy97),h98,l,trivial⟩
               ·skip
                rw[show qab x=true from by grind[qab,abOk,dupO,inR]]
                exact qFz ⟨h1,h16,h32,h47,h61,h75,h89,h89,h90,h91,h92,h93,h94,h95,(by grind[inR,inInt]),(by grind[inR,inInt]),(qad eI hy96),(by grind[inR,inInt]),(by grind[inR,inInt]),(qad eI hy97),h98,l,trivial⟩
             | false=>
              rcases qaU x hx with⟨hL,l⟩ | ⟨hL,l⟩
              ·skip
               rw[show qab x=false from by grind[qab,abOk,dupO,inR]]
               exact qFA ⟨h1,h16,h32,h47,h61,h75,h89,h89,h90,h91,h92,h93,h94,h95,l,trivial⟩
              ·skip
               rw[show qab x=true from by grind[qab,abOk,dupO,inR]]
               exact qFB ⟨h1,h16,h32,h47,h61,h75,h89,h89,h90,h91,h92,h93,h94,h95,l,trivial⟩
           | false=>
            cases h99:((↑(x.outs.map eI).length:Int)==2) with
            | true=>
             obtain⟨y100,hy100⟩:=qai (xs:=x.outs) (i:=0) (by grind[inR,inInt])
             obtain⟨y101,hy101⟩:=qai (xs:=x.outs) (i:=1) (by grind[inR,inInt])
             cases h102:(y100==y101) with
             | true=>
              rw[show qab x=false from by grind[qab,abOk,dupO,inR]]
              exact qFC ⟨h1,h16,h32,h47,h61,h75,h89,h89,h90,h91,h92,h93,h99,(by grind[inR,inInt]),(by grind[inR,inInt]),(qad eI hy100),(by grind[inR,inInt]),(by grind[inR,inInt]),(qad eI hy101),h102,trivial⟩
             | false=>
              rcases qaU x hx with⟨hL,l⟩ | ⟨hL,l⟩
              ·skip
               rw[show qab x=false from by grind[qab,abOk,dupO,inR]]
               exact qFD ⟨h1,h16,h32,h47,h61,h75,h89,h89,h90,h91,h92,h93,h99,(by grind[inR,inInt]),(by grind[inR,inInt]),(qad eI hy100),(by grind[inR,inInt]),(by grind[inR,inInt]),(qad eI hy101),h102,l,trivial⟩
              ·skip
               rw[show qab x=true from by grind[qab,abOk,dupO,inR]]
               exact qFE ⟨h1,h16,h32,h47,h61,h75,h89,h89,h90,h91,h92,h93,h99,(by grind[inR,inInt]),(by grind[inR,inInt]),(qad eI hy100),(by grind[inR,inInt]),(by grind[inR,inInt]),(qad eI hy101),h102,l,trivial⟩
            | false=>
             rcases qaU x hx with⟨hL,l⟩ | ⟨hL,l⟩
             ·skip
              rw[show qab x=false from by grind[qab,abOk,dupO,inR]]
              exact qFF ⟨h1,h16,h32,h47,h61,h75,h89,h89,h90,h91,h92,h93,h99,l,trivial⟩
             ·skip
              rw[show qab x=true from by grind[qab,abOk,dupO,inR]]
              exact qFG ⟨h1,h16,h32,h47,h61,h75,h89,h89,h90,h91,h92,h93,h99,l,trivial⟩
       | false=>
        cases h103:(x.kind==8) with
        | true=>
         cases h104:(x.a != 0) with
         | true=>
          rw[show qab x=false from by grind[qab,abOk,dupO,inR]]
          exact qFH ⟨h1,h16,h32,h47,h61,h75,h89,h103,h104,trivial⟩
         | false=>
          cases h105:(x.b != 0) with
          | true=>
           rw[show qab x=false from by grind[qab,abOk,dupO,inR]]
           exact qFI ⟨h1,h16,h32,h47,h61,h75,h89,h103,h104,h105,trivial⟩
          | false=>
           cases h106:(decide ((↑(x.outs.map eI).length:Int)>2)) with
           | true=>
            rw[show qab x=false from by grind[qab,abOk,dupO,inR]]
            exact qFJ ⟨h1,h16,h32,h47,h61,h75,h89,h103,h104,h105,h106,trivial⟩
           | false=>
            cases h107:(decide ((↑(x.outs.map eI).length:Int)>0)) with
            | true=>
             rw[show qab x=false from by grind[qab,abOk,dupO,inR]]
             exact qFK ⟨h1,h16,h32,h47,h61,h75,h89,h103,h104,h105,h106,h103,h107,trivial⟩
            | false=>
             cases h108:((↑(x.outs.map eI).length:Int)==2) with
             | true=>
              obtain⟨y109,hy109⟩:=qai (xs:=x.outs) (i:=0) (by grind[inR,inInt])
              obtain⟨y110,hy110⟩:=qai (xs:=x.outs) (i:=1) (by grind[inR,inInt])
              cases h111:(y109==y110) with
              | true=>
               rw[show qab x=false from by grind[qab,abOk,dupO,inR]]
               exact qFL ⟨h1,h16,h32,h47,h61,h75,h89,h103,h104,h105,h106,h103,h107,h108,(by grind[inR,inInt]),(by grind[inR,inInt]),(qad eI hy109),(by grind[inR,inInt]),(by grind[inR,inInt]),(qad eI hy110),h111,trivial⟩
              | false=>
               rcases qaU x hx with⟨hL,l⟩ | ⟨hL,l⟩
               ·skip
                rw[show qab x=false from by grind[qab,abOk,dupO,inR]]
                exact qFM ⟨h1,h16,h32,h47,h61,h75,h89,h103,h104,h105,h106,h103,h107,h108,(by grind[inR,inInt]),(by grind[inR,inInt]),(qad eI hy109),(by grind[inR,inInt]),(by grind[inR,inInt]),(qad eI hy110),h111,l,trivial⟩
               ·skip
                rw[show qab x=true from by grind[qab,abOk,dupO,inR]]
                exact qFN ⟨h1,h16,h32,h47,h61,h75,h89,h103,h104,h105,h106,h103,h107,h108,(by grind[inR,inInt]),(by grind[inR,inInt]),(qad eI hy109),(by grind[inR,inInt]),(by grind[inR,inInt]),(qad eI hy110),h111,l,trivial⟩
             | false=>
              rcases qaU x hx with⟨hL,l⟩ | ⟨hL,l⟩
              ·skip
               rw[show qab x=false from by grind[qab,abOk,dupO,inR]]
               exact qFO ⟨h1,h16,h32,h47,h61,h75,h89,h103,h104,h105,h106,h103,h107,h108,l,trivial⟩
              ·skip
               rw[show qab x=true from by grind[qab,abOk,dupO,inR]]
               exact qFP ⟨h1,h16,h32,h47,h61,h75,h89,h103,h104,h105,h106,h103,h107,h108,l,trivial⟩
        | false=>
         rw[show qab x=false from by grind[qab,abOk,dupO,inR]]
         exact qFQ ⟨h1,h16,h32,h47,h61,h75,h89,h103,trivial⟩
end Go.Proofs.YtdanpadojemjeaaGreat
