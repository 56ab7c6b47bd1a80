/- GraphOk, NodeOk, RecordOk, StampOk, NextTurn: what program and reference compute (the cases were put together by gentree.py). -/
import Derived.Test.YtenekpkjlgddnaaGreatP9
import Derived.Test.YtenekpkjlgddnaaGreatGQ
import Derived.Test.YtenekpkjlgddnaaGreatGR
set_option linter.unusedVariables false
set_option linter.unusedSimpArgs false
namespace Go.Proofs.YtenekpkjlgddnaaGreat
open Go.Sx Go.RowKit Go.Proofs.Tryz
def qaV(s:Stamp):Bool:=inR s.epoch 0 3&&inR s.turn 0 6
def qaC(k v:Int):Bool:=inR k 0 99&&inR v 0 999
def qao(r:Record):Bool:=inR r.op 0 7&&qaV r.stamp&&qaC r.key r.val
def qaW(s:Stamp):Stamp×Bool:=if qaV s&&decide (s.turn<6) then (⟨s.epoch,s.turn+1⟩,true) else (s,false)
def less(a b:Int):Int:=if b<a then b else a
def abOk(x:Node):Bool:=
 if x.kind=2 then inR x.a 0 999&&x.b==0
 else if x.kind=3 then inR x.a 1 10&&inR x.b 0 (IntKind.i64.wrap (x.a-1))
 else if x.kind=4 then inR x.a 0 99&&x.b==0
 else inR x.kind 1 8&&x.a==0&&x.b==0
def okAll(l:List Int):Bool:=!(l.any fun k=>!inR k 0 7)
def dupO(l:List Int):Bool:=decide (l.length=2∧l[0]?=l[1]?)
def qaa(x:Node):Bool:=abOk x&&decide (x.outs.length≤2)&&!(x.kind==8&&decide (0<x.outs.length))&&!dupO x.outs&&okAll x.outs
theorem look{α:Type}{xs:List α}{i:Int}(h0:0≤i)(h1:i<xs.length):∃a,xs[i.toNat]?=some a:=qah (by omega)
theorem qac{α:Type}{xs:List α}{i:Nat}{a:α}(f:α→List D)(h:xs[i]?=some a):(xs.map f)[i]?=some (f a):=by simp[h]
theorem qaz(x:Node)(hx:x.outs.length≤8388608):(okAll x.outs=false∧qai prog (qab f72 0) (qag (x.outs.map eI) 0) .ret (qat false))∨(okAll x.outs=true∧qai prog (qab f72 0) (qag (x.outs.map eI) 0) (.exit 1) qaw):=by
 have l:=qa7 (P:=prog) (c:=(qab f72 0)) x.outs (fun k=>!inR k 0 7) (fun i=>qag (x.outs.map eI) i) (X:=fun _ _=>qat false) qaE (qaj 1)
  (fun i a ha h=>qrF ⟨lt1 (lt_of ha),lt0,lt2 (lt_of ha),qad eI ha,qa4 a 0 7,h,up1 (lt_of ha) hx,trivial⟩)
  (fun i a ha h=>qrE ⟨lt1 (lt_of ha),lt0,lt2 (lt_of ha),qad eI ha,qa4 a 0 7,h,trivial⟩)
  (qrG ⟨ge1,trivial⟩)
 unfold okAll
 rcases l with⟨_,_,h1,h2⟩ | ⟨i,a,_,_,_,_,h1,h2⟩
 ·exact .inr ⟨by rw[h1];rfl,h2⟩
 ·exact .inl ⟨by rw[h1];rfl,h2⟩
theorem qc0(x:Node)(hx:x.outs.length≤2):((okAll x.outs&&!dupO x.outs)=false∧qai prog (qab f31 0) (qaB x.kind x.a x.b (x.outs.map eI) 0) .ret (qcb false))∨((okAll x.outs&&!dupO x.outs)=true∧qai prog (qab f31 0) (qaB x.kind x.a x.b (x.outs.map eI) 0) (.exit 1) qco):=by
 obtain⟨kd,a,b,outs⟩:=x
 have cl:=fun k=>qbc k 0 7
 match outs,hx with
 | [],_=>exact .inr ⟨rfl,.last (qaj 1) (qh1 ⟨rfl,trivial⟩)⟩
 | [k],_=>
  cases h1:inR k 0 7 with
  | false=>exact .inl ⟨by simp[okAll,h1],.last qaE (qh0 ⟨rfl,by omega,by simp,rfl,cl k,by rw[h1];rfl,trivial⟩)⟩
  | true=>
   refine .inr ⟨by simp[okAll,dupO,h1],.more (qkV ⟨rfl,by omega,by simp,rfl,cl k,by rw[h1];rfl,rfl,⟨by omega,by omega⟩,trivial⟩) (.last (qaj 1) (qh1 ⟨rfl,trivial⟩))⟩
 | [k,m],_=>
  cases h1:inR k 0 7 with
  | false=>exact .inl ⟨by simp[okAll,h1],.last qaE (qh0 ⟨rfl,by omega,by simp,rfl,cl k,by rw[h1];rfl,trivial⟩)⟩
  | true=>
   have first:Tr prog (qab f31 0) (qaB kd a b ([k,m].map eI) 0) .normal (qaB kd a b ([k,m].map eI) (0+1)):=qkV ⟨rfl,by omega,by simp,rfl,cl k,by rw[h1];rfl,rfl,⟨by omega,by omega⟩,trivial⟩
   cases h2:inR m 0 7 with
   | false=>exact .inl ⟨by simp[okAll,h1,h2],.more first (.last qaE (qh0 ⟨rfl,by omega,by simp,rfl,cl m,by rw[h2];rfl,trivial⟩))⟩
   | true=>
    cases h3:(k==m) with
    | true=>exact .inl ⟨by simp[okAll,dupO,h1,h2]at h3 ⊢;exact h3,.more first (.last qaE (qq2 ⟨rfl,by omega,by simp,rfl,cl m,by rw[h2];rfl,rfl,by omega,by simp,rfl,by omega,by simp,rfl,h3,trivial⟩))⟩
    | false=>exact .inr ⟨by simp[okAll,dupO,h1,h2]at h3 ⊢;exact h3,.more first (.more (qq3 ⟨rfl,by omega,by simp,rfl,cl m,by rw[h2];rfl,rfl,by omega,by simp,rfl,by omega,by simp,rfl,h3,⟨by omega,by omega⟩,trivial⟩) (.last (qaj 1) (qh1 ⟨rfl,trivial⟩)))⟩
theorem qtm(s:Stamp):Rt 32 [.agg s.e] [.one (B (qaV s))]:=by
 have c1:=qbc s.epoch 0 3
 cases h2:(inR s.epoch 0 3) with
 | true=>
  have c3:=qbc s.turn 0 6
  rw[show qaV s=inR s.turn 0 6 from by grind[qaV]]
  exact qqI ⟨c1,h2,c3,trivial⟩
 | false=>
  rw[show qaV s=false from by grind[qaV]]
  exact qqJ ⟨c1,h2,trivial⟩
theorem qkW(s:Stamp):Rt 79 [.agg s.e] [.one (B (qaV s))]:=by
 have c1:=qa4 s.epoch 0 3
 cases h2:(inR s.epoch 0 3) with
 | true=>
  have c3:=qa4 s.turn 0 6
  rw[show qaV s=inR s.turn 0 6 from by grind[qaV]]
  exact qqK ⟨c1,h2,c3,trivial⟩
 | false=>
  rw[show qaV s=false from by grind[qaV]]
  exact qqL ⟨c1,h2,trivial⟩
theorem qkX(k v:Int):Rt 80 [.one (I k),.one (I v)] [.one (B (qaC k v))]:=by
 have c1:=qa4 k 0 99
 cases h2:(inR k 0 99) with
 | true=>
  have c3:=qa4 v 0 999
  rw[show qaC k v=inR v 0 999 from by grind[qaC]]
  exact qqV ⟨c1,h2,c3,trivial⟩
 | false=>
  rw[show qaC k v=false from by grind[qaC]]
  exact qqW ⟨c1,h2,trivial⟩
theorem qkY(r:Record):Rt 13 [.agg r.e] [.one (B (qao r))]:=by
 have c1:=qbc r.op 0 7
 cases h2:(inR r.op 0 7) with
 | true=>
  have c3:=qtm r.stamp
  cases h4:(qaV r.stamp) with
  | true=>
   have c5:=qbc r.key 0 99
   cases h6:(inR r.key 0 99) with
   | true=>
    have c7:=qbc r.val 0 999
    rw[show qao r=inR r.val 0 999 from by grind[qao,qaC]]
    exact qqB ⟨c1,h2,c3,h4,c5,h6,c7,trivial⟩
   | false=>
    rw[show qao r=false from by grind[qao,qaC]]
    exact qqC ⟨c1,h2,c3,h4,c5,h6,trivial⟩
  | false=>
   rw[show qao r=false from by grind[qao,qaC]]
   exact qqD ⟨c1,h2,c3,h4,trivial⟩
 | false=>
  rw[show qao r=false from by grind[qao,qaC]]
  exact qqE ⟨c1,h2,trivial⟩
theorem qc1(r:Record):Rt 64 [.agg r.e] [.one (B (qao r))]:=by
 have c1:=qa4 r.op 0 7
 cases h2:(inR r.op 0 7) with
 | true=>
  have c3:=qkW r.stamp
  cases h4:(qaV r.stamp) with
  | true=>
   have c5:=qkX r.key r.val
   rw[show qao r=qaC r.key r.val from by grind[qao,qaC]]
   exact qqF ⟨c1,h2,c3,h4,c5,trivial⟩
  | false=>
   rw[show qao r=false from by grind[qao,qaC]]
   exact qqG ⟨c1,h2,c3,h4,trivial⟩
 | false=>
  rw[show qao r=false from by grind[qao,qaC]]
  exact qqH ⟨c1,h2,trivial⟩
theorem qh2(s:Stamp):Rt 77 [.agg s.e] [.agg ((qaW s).1).e,.one (B ((qaW s).2))]:=by
 have c1:=qkW s
 cases h2:(qaV s) with
 | true=>
  cases h3:(s.turn==6) with
  | true=>
   rw[show qaW s=(s,false) from by grind[qaW,qaV,inR]]
   exact qqN ⟨c1,(by rw[h2];rfl),h3,trivial⟩
  | false=>
   rw[show qaW s=((⟨s.epoch,s.turn+1⟩:Stamp),true) from by grind[qaW,qaV,inR]]
   exact qqO ⟨c1,(by rw[h2];rfl),h3,(by grind[qaV,inR,inInt]),trivial⟩
 | false=>
  rw[show qaW s=(s,false) from by grind[qaW,qaV,inR]]
  exact qqM ⟨c1,(by rw[h2];rfl),trivial⟩
theorem qtn(x:Node)(hx:x.outs.length≤8388608):Rt 31 [.agg x.e] [.one (B (qaa x))]:=by
 cases h1:(x.kind==2) with
 | true=>
  have c2:=qbc x.a 0 999
  have c3:=qbc x.kind 1 8
  cases h4:(inR x.kind 1 8) with
  | true=>
   cases h5:(inR x.a 0 999) with
   | true=>
    cases h6:(x.b==0) with
    | true=>
     cases h7:(decide ((↑(x.outs.map eI).length:Int)>2)) with
     | true=>
      rw[show qaa x=false from by grind[qaa,abOk,dupO,inR]]
      exact qq0 ⟨h1,c2,c3,(by rw[h4];rfl),(by rw[h5];rfl),(by rw[h6];rfl),h7,trivial⟩
     | false=>
      cases h8:(x.kind==8) with
      | true=>
       cases h9:(decide ((↑(x.outs.map eI).length:Int)>0)) with
       | true=>
        rw[show qaa x=false from by grind[qaa,abOk,dupO,inR]]
        exact qq1 ⟨h1,c2,c3,(by rw[h4];rfl),(by rw[h5];rfl),(by rw[h6];rfl),h7,h8,h9,trivial⟩
       | false=>
        rcases qc0 x (by grind) with⟨hL,l⟩ | ⟨hL,l⟩
        ·skip
         rw[show qaa x=false from by grind[qaa,abOk,dupO,inR]]
         exact qq4 ⟨h1,c2,c3,(by rw[h4];rfl),(by rw[h5];rfl),(by rw[h6];rfl),h7,h8,h9,l,trivial⟩
        ·skip
         rw[show qaa x=true from by grind[qaa,abOk,dupO,inR]]
         exact qq5 ⟨h1,c2,c3,(by rw[h4];rfl),(by rw[h5];rfl),(by rw[h6];rfl),h7,h8,h9,l,trivial⟩
      | false=>
       rcases qc0 x (by grind) with⟨hL,l⟩ | ⟨hL,l⟩
       ·skip
        rw[show qaa x=false from by grind[qaa,abOk,dupO,inR]]
        exact qq6 ⟨h1,c2,c3,(by rw[h4];rfl),(by rw[h5];rfl),(by rw[h6];rfl),h7,h8,l,trivial⟩
       ·skip
        rw[show qaa x=true from by grind[qaa,abOk,dupO,inR]]
        exact qq7 ⟨h1,c2,c3,(by rw[h4];rfl),(by rw[h5];rfl),(by rw[h6];rfl),h7,h8,l,trivial⟩
    | false=>
     rw[show qaa x=false from by grind[qaa,abOk,dupO,inR]]
     exact qqZ ⟨h1,c2,c3,(by rw[h4];rfl),(by rw[h5];rfl),(by rw[h6];rfl),trivial⟩
   | false=>
    rw[show qaa x=false from by grind[qaa,abOk,dupO,inR]]
    exact qqY ⟨h1,c2,c3,(by rw[h4];rfl),(by rw[h5];rfl),trivial⟩
  | false=>
   rw[show qaa x=false from by grind[qaa,abOk,dupO,inR]]
   exact qqX ⟨h1,c2,c3,(by rw[h4];rfl),trivial⟩
 | false=>
  cases h10:(x.kind==3) with
  | true=>
   have c11:=qbc x.a 1 10
   have c12:=qbc x.b 0 (IntKind.i64.wrap (x.a-1))
   have c13:=qbc x.kind 1 8
   cases h14:(inR x.kind 1 8) with
   | true=>
    cases h15:(inR x.a 1 10) with
    | true=>
     cases h16:(inR x.b 0 (IntKind.i64.wrap (x.a-1))) with
     | true=>
      cases h17:(decide ((↑(x.outs.map eI).length:Int)>2)) with
      | true=>
       rw[show qaa x=false from by grind[qaa,abOk,dupO,inR]]
       exact qrb ⟨h1,h10,c11,c12,c13,(by rw[h14];rfl),(by rw[h15];rfl),(by rw[h16];rfl),h17,trivial⟩
      | false=>
       cases h18:(x.kind==8) with
       | true=>
        cases h19:(decide ((↑(x.outs.map eI).length:Int)>0)) with
        | true=>
         rw[show qaa x=false from by grind[qaa,abOk,dupO,inR]]
         exact qrc ⟨h1,h10,c11,c12,c13,(by rw[h14];rfl),(by rw[h15];rfl),(by rw[h16];rfl),h17,h18,h19,trivial⟩
        | false=>
         rcases qc0 x (by grind) with⟨hL,l⟩ | ⟨hL,l⟩
         ·skip
          rw[show qaa x=false from by grind[qaa,abOk,dupO,inR]]
          exact qrd ⟨h1,h10,c11,c12,c13,(by rw[h14];rfl),(by rw[h15];rfl),(by rw[h16];rfl),h17,h18,h19,l,trivial⟩
         ·skip
          rw[show qaa x=true from by grind[qaa,abOk,dupO,inR]]
          exact qre ⟨h1,h10,c11,c12,c13,(by rw[h14];rfl),(by rw[h15];rfl),(by rw[h16];rfl),h17,h18,h19,l,trivial⟩
       | false=>
        rcases qc0 x (by grind) with⟨hL,l⟩ | ⟨hL,l⟩
        ·skip
         rw[show qaa x=false from by grind[qaa,abOk,dupO,inR]]
         exact qrf ⟨h1,h10,c11,c12,c13,(by rw[h14];rfl),(by rw[h15];rfl),(by rw[h16];rfl),h17,h18,l,trivial⟩
        ·skip
         rw[show qaa x=true from by grind[qaa,abOk,dupO,inR]]
         exact qrg ⟨h1,h10,c11,c12,c13,(by rw[h14];rfl),(by rw[h15];rfl),(by rw[h16];rfl),h17,h18,l,trivial⟩
     | false=>
      rw[show qaa x=false from by grind[qaa,abOk,dupO,inR]]
      exact qra ⟨h1,h10,c11,c12,c13,(by rw[h14];rfl),(by rw[h15];rfl),(by rw[h16];rfl),trivial⟩
    | false=>
     rw[show qaa x=false from by grind[qaa,abOk,dupO,inR]]
     exact qq9 ⟨h1,h10,c11,c12,c13,(by rw[h14];rfl),(by rw[h15];rfl),trivial⟩
   | false=>
    rw[show qaa x=false from by grind[qaa,abOk,dupO,inR]]
    exact qq8 ⟨h1,h10,c11,c12,c13,(by rw[h14];rfl),trivial⟩
  | false=>
   cases h20:(x.kind==4) with
   | true=>
    have c21:=qbc x.a 0 99
    have c22:=qbc x.kind 1 8
    cases h23:(inR x.kind 1 8) with
    | true=>
     cases h24:(inR x.a 0 99) with
     | true=>
      cases h25:(x.b==0) with
      | true=>
       cases h26:(decide ((↑(x.outs.map eI).length:Int)>2)) with
       | true=>
        rw[show qaa x=false from by grind[qaa,abOk,dupO,inR]]
        exact qrk ⟨h1,h10,h20,c21,c22,(by rw[h23];rfl),(by rw[h24];rfl),(by rw[h25];rfl),h26,trivial⟩
       | false=>
        cases h27:(x.kind==8) with
        | true=>
         cases h28:(decide ((↑(x.outs.map eI).length:Int)>0)) with
         | true=>
          rw[show qaa x=false from by grind[qaa,abOk,dupO,inR]]
          exact qrl ⟨h1,h10,h20,c21,c22,(by rw[h23];rfl),(by rw[h24];rfl),(by rw[h25];rfl),h26,h27,h28,trivial⟩
         | false=>
          rcases qc0 x (by grind) with⟨hL,l⟩ | ⟨hL,l⟩
          ·skip
           rw[show qaa x=false from by grind[qaa,abOk,dupO,inR]]
           exact qrm ⟨h1,h10,h20,c21,c22,(by rw[h23];rfl),(by rw[h24];rfl),(by rw[h25];rfl),h26,h27,h28,l,trivial⟩
          ·skip
           rw[show qaa x=true from by grind[qaa,abOk,dupO,inR]]
           exact qrn ⟨h1,h10,h20,c21,c22,(by rw[h23];rfl),(by rw[h24];rfl),(by rw[h25];rfl),h26,h27,h28,l,trivial⟩
        | false=>
         rcases qc0 x (by grind) with⟨hL,l⟩ | ⟨hL,l⟩
         ·skip
          rw[show qaa x=false from by grind[qaa,abOk,dupO,inR]]
          exact qro ⟨h1,h10,h20,c21,c22,(by rw[h23];rfl),(by rw[h24];rfl),(by rw[h25];rfl),h26,h27,l,trivial⟩
         ·skip
          rw[show qaa x=true from by grind[qaa,abOk,dupO,inR]]
          exact qrp ⟨h1,h10,h20,c21,c22,(by rw[h23];rfl),(by rw[h24];rfl),(by rw[h25];rfl),h26,h27,l,trivial⟩
      | false=>
       rw[show qaa x=false from by grind[qaa,abOk,dupO,inR]]
       exact qrj ⟨h1,h10,h20,c21,c22,(by rw[h23];rfl),(by rw[h24];rfl),(by rw[h25];rfl),trivial⟩
     | false=>
      rw[show qaa x=false from by grind[qaa,abOk,dupO,inR]]
      exact qri ⟨h1,h10,h20,c21,c22,(by rw[h23];rfl),(by rw[h24];rfl),trivial⟩
    | false=>
     rw[show qaa x=false from by grind[qaa,abOk,dupO,inR]]
     exact qrh ⟨h1,h10,h20,c21,c22,(by rw[h23];rfl),trivial⟩
   | false=>
    have c29:=qbc x.kind 1 8
    cases h30:(inR x.kind 1 8) with
    | true=>
     cases h31:(x.a==0) with
     | true=>
      cases h32:(x.b==0) with
      | true=>
       cases h33:(decide ((↑(x.outs.map eI).length:Int)>2)) with
       | true=>
        rw[show qaa x=false from by grind[qaa,abOk,dupO,inR]]
        exact qrt ⟨h1,h10,h20,c29,(by rw[h30];rfl),(by rw[h31];rfl),(by rw[h32];rfl),h33,trivial⟩
       | false=>
        cases h34:(x.kind==8) with
        | true=>
         cases h35:(decide ((↑(x.outs.map eI).length:Int)>0)) with
         | true=>
          rw[show qaa x=false from by grind[qaa,abOk,dupO,inR]]
          exact qru ⟨h1,h10,h20,c29,(by rw[h30];rfl),(by rw[h31];rfl),(by rw[h32];rfl),h33,h34,h35,trivial⟩
         | false=>
          rcases qc0 x (by grind) with⟨hL,l⟩ | ⟨hL,l⟩
          ·skip
           rw[show qaa x=false from by grind[qaa,abOk,dupO,inR]]
           exact qrv ⟨h1,h10,h20,c29,(by rw[h30];rfl),(by rw[h31];rfl),(by rw[h32];rfl),h33,h34,h35,l,trivial⟩
          ·skip
           rw[show qaa x=true from by grind[qaa,abOk,dupO,inR]]
           exact qrw ⟨h1,h10,h20,c29,(by rw[h30];rfl),(by rw[h31];rfl),(by rw[h32];rfl),h33,h34,h35,l,trivial⟩
        | false=>
         rcases qc0 x (by grind) with⟨hL,l⟩ | ⟨hL,l⟩
         ·skip
          rw[show qaa x=false from by grind[qaa,abOk,dupO,inR]]
          exact qrx ⟨h1,h10,h20,c29,(by rw[h30];rfl),(by rw[h31];rfl),(by rw[h32];rfl),h33,h34,l,trivial⟩
         ·skip
          rw[show qaa x=true from by grind[qaa,abOk,dupO,inR]]
          exact qry ⟨h1,h10,h20,c29,(by rw[h30];rfl),(by rw[h31];rfl),(by rw[h32];rfl),h33,h34,l,trivial⟩
      | false=>
       rw[show qaa x=false from by grind[qaa,abOk,dupO,inR]]
       exact qrs ⟨h1,h10,h20,c29,(by rw[h30];rfl),(by rw[h31];rfl),(by rw[h32];rfl),trivial⟩
     | false=>
      rw[show qaa x=false from by grind[qaa,abOk,dupO,inR]]
      exact qrr ⟨h1,h10,h20,c29,(by rw[h30];rfl),(by rw[h31];rfl),trivial⟩
    | false=>
     rw[show qaa x=false from by grind[qaa,abOk,dupO,inR]]
     exact qrq ⟨h1,h10,h20,c29,(by rw[h30];rfl),trivial⟩
theorem qkZ(x:Node)(hx:x.outs.length≤8388608):Rt 72 [.agg x.e] [.one (B (qaa x))]:=by
 cases h1:(x.kind==2) with
 | true=>
  have c2:=qa4 x.a 0 999
  cases h3:(inR x.a 0 999) with
  | true=>
   cases h4:(x.b != 0) with
   | true=>
    rw[show qaa x=false from by grind[qaa,abOk,dupO,inR]]
    exact qrA ⟨h1,c2,(by rw[h3];rfl),h4,trivial⟩
   | false=>
    cases h5:(decide ((↑(x.outs.map eI).length:Int)>2)) with
    | true=>
     rw[show qaa x=false from by grind[qaa,abOk,dupO,inR]]
     exact qrB ⟨h1,c2,(by rw[h3];rfl),h4,h5,trivial⟩
    | false=>
     cases h6:(x.kind==8) with
     | true=>
      cases h7:(decide ((↑(x.outs.map eI).length:Int)>0)) with
      | true=>
       rw[show qaa x=false from by grind[qaa,abOk,dupO,inR]]
       exact qrC ⟨h1,c2,(by rw[h3];rfl),h4,h5,h6,h7,trivial⟩
      | false=>
       cases h8:((↑(x.outs.map eI).length:Int)==2) with
       | true=>
        obtain⟨y9,hy9⟩:=qah (xs:=x.outs) (i:=0) (by grind[inR,inInt])
        obtain⟨y10,hy10⟩:=qah (xs:=x.outs) (i:=1) (by grind[inR,inInt])
        cases h11:(y9==y10) with
        | true=>
         rw[show qaa x=false from by grind[qaa,abOk,dupO,inR]]
         exact qrD ⟨h1,c2,(by rw[h3];rfl),h4,h5,h6,h7,h8,(by grind[inR,inInt]),(by grind[inR,inInt]),(qac eI hy9),(by grind[inR,inInt]),(by grind[inR,inInt]),(qac eI hy10),h11,trivial⟩
        | false=>
         rcases qaz x hx with⟨hL,l⟩ | ⟨hL,l⟩
         ·skip
          rw[show qaa x=false from by grind[qaa,abOk,dupO,inR]]
          exact qrH ⟨h1,c2,(by rw[h3];rfl),h4,h5,h6,h7,h8,(by grind[inR,inInt]),(by grind[inR,inInt]),(qac eI hy9),(by grind[inR,inInt]),(by grind[inR,inInt]),(qac eI hy10),h11,l,trivial⟩
         ·skip
          rw[show qaa x=true from by grind[qaa,abOk,dupO,inR]]
          exact qrI ⟨h1,c2,(by rw[h3];rfl),h4,h5,h6,h7,h8,(by grind[inR,inInt]),(by grind[inR,inInt]),(qac eI hy9),(by grind[inR,inInt]),(by grind[inR,inInt]),(qac eI hy10),h11,l,trivial⟩
       | false=>
        rcases qaz x hx with⟨hL,l⟩ | ⟨hL,l⟩
        ·skip
         rw[show qaa x=false from by grind[qaa,abOk,dupO,inR]]
         exact qrJ ⟨h1,c2,(by rw[h3];rfl),h4,h5,h6,h7,h8,l,trivial⟩
        ·skip
         rw[show qaa x=true from by grind[qaa,abOk,dupO,inR]]
         exact qrK ⟨h1,c2,(by rw[h3];rfl),h4,h5,h6,h7,h8,l,trivial⟩
     | false=>
      cases h12:((↑(x.outs.map eI).length:Int)==2) with
      | true=>
       obtain⟨y13,hy13⟩:=qah (xs:=x.outs) (i:=0) (by grind[inR,inInt])
       obtain⟨y14,hy14⟩:=qah (xs:=x.outs) (i:=1) (by grind[inR,inInt])
       cases h15:(y13==y14) with
       | true=>
        rw[show qaa x=false from by grind[qaa,abOk,dupO,inR]]
        exact qrL ⟨h1,c2,(by rw[h3];rfl),h4,h5,h6,h12,(by grind[inR,inInt]),(by grind[inR,inInt]),(qac eI hy13),(by grind[inR,inInt]),(by grind[inR,inInt]),(qac eI hy14),h15,trivial⟩
       | false=>
        rcases qaz x hx with⟨hL,l⟩ | ⟨hL,l⟩
        ·skip
         rw[show qaa x=false from by grind[qaa,abOk,dupO,inR]]
         exact qrM ⟨h1,c2,(by rw[h3];rfl),h4,h5,h6,h12,(by grind[inR,inInt]),(by grind[inR,inInt]),(qac eI hy13),(by grind[inR,inInt]),(by grind[inR,inInt]),(qac eI hy14),h15,l,trivial⟩
        ·skip
         rw[show qaa x=true from by grind[qaa,abOk,dupO,inR]]
         exact qrN ⟨h1,c2,(by rw[h3];rfl),h4,h5,h6,h12,(by grind[inR,inInt]),(by grind[inR,inInt]),(qac eI hy13),(by grind[inR,inInt]),(by grind[inR,inInt]),(qac eI hy14),h15,l,trivial⟩
      | false=>
       rcases qaz x hx with⟨hL,l⟩ | ⟨hL,l⟩
       ·skip
        rw[show qaa x=false from by grind[qaa,abOk,dupO,inR]]
        exact qrO ⟨h1,c2,(by rw[h3];rfl),h4,h5,h6,h12,l,trivial⟩
       ·skip
        rw[show qaa x=true from by grind[qaa,abOk,dupO,inR]]
        exact qrP ⟨h1,c2,(by rw[h3];rfl),h4,h5,h6,h12,l,trivial⟩
  | false=>
   rw[show qaa x=false from by grind[qaa,abOk,dupO,inR]]
   exact qrz ⟨h1,c2,(by rw[h3];rfl),trivial⟩
 | false=>
  cases h16:(x.kind==3) with
  | true=>
   have c17:=qa4 x.a 1 10
   cases h18:(inR x.a 1 10) with
   | true=>
    have c19:=qa4 x.b 0 (IntKind.i64.wrap (x.a-1))
    cases h20:(inR x.b 0 (IntKind.i64.wrap (x.a-1))) with
    | true=>
     cases h21:(decide ((↑(x.outs.map eI).length:Int)>2)) with
     | true=>
      rw[show qaa x=false from by grind[qaa,abOk,dupO,inR]]
      exact qrS ⟨h1,h16,c17,(by rw[h18];rfl),c19,(by rw[h20];rfl),h21,trivial⟩
     | false=>
      cases h22:(x.kind==8) with
      | true=>
       cases h23:(decide ((↑(x.outs.map eI).length:Int)>0)) with
       | true=>
        rw[show qaa x=false from by grind[qaa,abOk,dupO,inR]]
        exact qrT ⟨h1,h16,c17,(by rw[h18];rfl),c19,(by rw[h20];rfl),h21,h22,h23,trivial⟩
       | false=>
        cases h24:((↑(x.outs.map eI).length:Int)==2) with
        | true=>
         obtain⟨y25,hy25⟩:=qah (xs:=x.outs) (i:=0) (by grind[inR,inInt])
         obtain⟨y26,hy26⟩:=qah (xs:=x.outs) (i:=1) (by grind[inR,inInt])
         cases h27:(y25==y26) with
         | true=>
          rw[show qaa x=false from by grind[qaa,abOk,dupO,inR]]
          exact qrU ⟨h1,h16,c17,(by rw[h18];rfl),c19,(by rw[h20];rfl),h21,h22,h23,h24,(by grind[inR,inInt]),(by grind[inR,inInt]),(qac eI hy25),(by grind[inR,inInt]),(by grind[inR,inInt]),(qac eI hy26),h27,trivial⟩
         | false=>
          rcases qaz x hx with⟨hL,l⟩ | ⟨hL,l⟩
          ·skip
           rw[show qaa x=false from by grind[qaa,abOk,dupO,inR]]
           exact qrV ⟨h1,h16,c17,(by rw[h18];rfl),c19,(by rw[h20];rfl),h21,h22,h23,h24,(by grind[inR,inInt]),(by grind[inR,inInt]),(qac eI hy25),(by grind[inR,inInt]),(by grind[inR,inInt]),(qac eI hy26),h27,l,trivial⟩
          ·skip
           rw[show qaa x=true from by grind[qaa,abOk,dupO,inR]]
           exact qrW ⟨h1,h16,c17,(by rw[h18];rfl),c19,(by rw[h20];rfl),h21,h22,h23,h24,(by grind[inR,inInt]),(by grind[inR,inInt]),(qac eI hy25),(by grind[inR,inInt]),(by grind[inR,inInt]),(qac eI hy26),h27,l,trivial⟩
        | false=>
         rcases qaz x hx with⟨hL,l⟩ | ⟨hL,l⟩
         ·skip
          rw[show qaa x=false from by grind[qaa,abOk,dupO,inR]]
          exact qrX ⟨h1,h16,c17,(by rw[h18];rfl),c19,(by rw[h20];rfl),h21,h22,h23,h24,l,trivial⟩
         ·skip
          rw[show qaa x=true from by grind[qaa,abOk,dupO,inR]]
          exact qrY ⟨h1,h16,c17,(by rw[h18];rfl),c19,(by rw[h20];rfl),h21,h22,h23,h24,l,trivial⟩
      | false=>
       cases h28:((↑(x.outs.map eI).length:Int)==2) with
       | true=>
        obtain⟨y29,hy29⟩:=qah (xs:=x.outs) (i:=0) (by grind[inR,inInt])
        obtain⟨y30,hy30⟩:=qah (xs:=x.outs) (i:=1) (by grind[inR,inInt])
        cases h31:(y29==y30) with
        | true=>
         rw[show qaa x=false from by grind[qaa,abOk,dupO,inR]]
         exact qrZ ⟨h1,h16,c17,(by rw[h18];rfl),c19,(by rw[h20];rfl),h21,h22,h28,(by grind[inR,inInt]),(by grind[inR,inInt]),(qac eI hy29),(by grind[inR,inInt]),(by grind[inR,inInt]),(qac eI hy30),h31,trivial⟩
        | false=>
         rcases qaz x hx with⟨hL,l⟩ | ⟨hL,l⟩
         ·skip
          rw[show qaa x=false from by grind[qaa,abOk,dupO,inR]]
          exact qr0 ⟨h1,h16,c17,(by rw[h18];rfl),c19,(by rw[h20];rfl),h21,h22,h28,(by grind[inR,inInt]),(by grind[inR,inInt]),(qac eI hy29),(by grind[inR,inInt]),(by grind[inR,inInt]),(qac eI hy30),h31,l,trivial⟩
         ·skip
          rw[show qaa x=true from by grind[qaa,abOk,dupO,inR]]
          exact qr1 ⟨h1,h16,c17,(by rw[h18];rfl),c19,(by rw[h20];rfl),h21,h22,h28,(by grind[inR,inInt]),(by grind[inR,inInt]),(qac eI hy29),(by grind[inR,inInt]),(by grind[inR,inInt]),(qac eI hy30),h31,l,trivial⟩
       | false=>
        rcases qaz x hx with⟨hL,l⟩ | ⟨hL,l⟩
        ·skip
         rw[show qaa x=false from by grind[qaa,abOk,dupO,inR]]
         exact qr2 ⟨h1,h16,c17,(by rw[h18];rfl),c19,(by rw[h20];rfl),h21,h22,h28,l,trivial⟩
        ·skip
         rw[show qaa x=true from by grind[qaa,abOk,dupO,inR]]
         exact qr3 ⟨h1,h16,c17,(by rw[h18];rfl),c19,(by rw[h20];rfl),h21,h22,h28,l,trivial⟩
    | false=>
     rw[show qaa x=false from by grind[qaa,abOk,dupO,inR]]
     exact qrR ⟨h1,h16,c17,(by rw[h18];rfl),c19,(by rw[h20];rfl),trivial⟩
   | false=>
    rw[show qaa x=false from by grind[qaa,abOk,dupO,inR]]
    exact qrQ ⟨h1,h16,c17,(by rw[h18];rfl),trivial⟩
  | false=>
   cases h32:(x.kind==4) with
   | true=>
    have c33:=qa4 x.a 0 99
    cases h34:(inR x.a 0 99) with
    | true=>
     cases h35:(x.b != 0) with
     | true=>
      rw[show qaa x=false from by grind[qaa,abOk,dupO,inR]]
      exact qr5 ⟨h1,h16,h32,c33,(by rw[h34];rfl),h35,trivial⟩
     | false=>
      cases h36:(decide ((↑(x.outs.map eI).length:Int)>2)) with
      | true=>
       rw[show qaa x=false from by grind[qaa,abOk,dupO,inR]]
       exact qr6 ⟨h1,h16,h32,c33,(by rw[h34];rfl),h35,h36,trivial⟩
      | false=>
       cases h37:(x.kind==8) with
       | true=>
        cases h38:(decide ((↑(x.outs.map eI).length:Int)>0)) with
        | true=>
         rw[show qaa x=false from by grind[qaa,abOk,dupO,inR]]
         exact qr7 ⟨h1,h16,h32,c33,(by rw[h34];rfl),h35,h36,h37,h38,trivial⟩
        | false=>
         cases h39:((↑(x.outs.map eI).length:Int)==2) with
         | true=>
          obtain⟨y40,hy40⟩:=qah (xs:=x.outs) (i:=0) (by grind[inR,inInt])
          obtain⟨y41,hy41⟩:=qah (xs:=x.outs) (i:=1) (by grind[inR,inInt])
          cases h42:(y40==y41) with
          | true=>
           rw[show qaa x=false from by grind[qaa,abOk,dupO,inR]]
           exact qr8 ⟨h1,h16,h32,c33,(by rw[h34];rfl),h35,h36,h37,h38,h39,(by grind[inR,inInt]),(by grind[inR,inInt]),(qac eI hy40),(by grind[inR,inInt]),(by grind[inR,inInt]),(qac eI hy41),h42,trivial⟩
          | false=>
           rcases qaz x hx with⟨hL,l⟩ | ⟨hL,l⟩
           ·skip
            rw[show qaa x=false from by grind[qaa,abOk,dupO,inR]]
            exact qr9 ⟨h1,h16,h32,c33,(by rw[h34];rfl),h35,h36,h37,h38,h39,(by grind[inR,inInt]),(by grind[inR,inInt]),(qac eI hy40),(by grind[inR,inInt]),(by grind[inR,inInt]),(qac eI hy41),h42,l,trivial⟩
           ·skip
            rw[show qaa x=true from by grind[qaa,abOk,dupO,inR]]
            exact qsa ⟨h1,h16,h32,c33,(by rw[h34];rfl),h35,h36,h37,h38,h39,(by grind[inR,inInt]),(by grind[inR,inInt]),(qac eI hy40),(by grind[inR,inInt]),(by grind[inR,inInt]),(qac eI hy41),h42,l,trivial⟩
         | false=>
          rcases qaz x hx with⟨hL,l⟩ | ⟨hL,l⟩
          ·skip
           rw[show qaa x=false from by grind[qaa,abOk,dupO,inR]]
           exact qsb ⟨h1,h16,h32,c33,(by rw[h34];rfl),h35,h36,h37,h38,h39,l,trivial⟩
          ·skip
           rw[show qaa x=true from by grind[qaa,abOk,dupO,inR]]
           exact qsc ⟨h1,h16,h32,c33,(by rw[h34];rfl),h35,h36,h37,h38,h39,l,trivial⟩
       | false=>
        cases h43:((↑(x.outs.map eI).length:Int)==2) with
        | true=>
         obtain⟨y44,hy44⟩:=qah (xs:=x.outs) (i:=0) (by grind[inR,inInt])
         obtain⟨y45,hy45⟩:=qah (xs:=x.outs) (i:=1) (by grind[inR,inInt])
         cases h46:(y44==y45) with
         | true=>
          rw[show qaa x=false from by grind[qaa,abOk,dupO,inR]]
          exact qsd ⟨h1,h16,h32,c33,(by rw[h34];rfl),h35,h36,h37,h43,(by grind[inR,inInt]),(by grind[inR,inInt]),(qac eI hy44),(by grind[inR,inInt]),(by grind[inR,inInt]),(qac eI hy45),h46,trivial⟩
         | false=>
          rcases qaz x hx with⟨hL,l⟩ | ⟨hL,l⟩
          ·skip
           rw[show qaa x=false from by grind[qaa,abOk,dupO,inR]]
           exact qse ⟨h1,h16,h32,c33,(by rw[h34];rfl),h35,h36,h37,h43,(by grind[inR,inInt]),(by grind[inR,inInt]),(qac eI hy44),(by grind[inR,inInt]),(by grind[inR,inInt]),(qac eI hy45),h46,l,trivial⟩
          ·skip
           rw[show qaa x=true from by grind[qaa,abOk,dupO,inR]]
           exact qsf ⟨h1,h16,h32,c33,(by rw[h34];rfl),h35,h36,h37,h43,(by grind[inR,inInt]),(by grind[inR,inInt]),(qac eI hy44),(by grind[inR,inInt]),(by grind[inR,inInt]),(qac eI hy45),h46,l,trivial⟩
        | false=>
         rcases qaz x hx with⟨hL,l⟩ | ⟨hL,l⟩
         ·skip
          rw[show qaa x=false from by grind[qaa,abOk,dupO,inR]]
          exact qsg ⟨h1,h16,h32,c33,(by rw[h34];rfl),h35,h36,h37,h43,l,trivial⟩
         ·skip
          rw[show qaa x=true from by grind[qaa,abOk,dupO,inR]]
          exact qsh ⟨h1,h16,h32,c33,(by rw[h34];rfl),h35,h36,h37,h43,l,trivial⟩
    | false=>
     rw[show qaa x=false from by grind[qaa,abOk,dupO,inR]]
     exact qr4 ⟨h1,h16,h32,c33,(by rw[h34];rfl),trivial⟩
   | false=>
    cases h47:(x.kind==1) with
    | true=>
     cases h48:(x.a != 0) with
     | true=>
      rw[show qaa x=false from by grind[qaa,abOk,dupO,inR]]
      exact qsi ⟨h1,h16,h32,h47,h47,h48,trivial⟩
     | false=>
      cases h49:(x.b != 0) with
      | true=>
       rw[show qaa x=false from by grind[qaa,abOk,dupO,inR]]
       exact qsj ⟨h1,h16,h32,h47,h47,h48,h49,trivial⟩
      | false=>
       cases h50:(decide ((↑(x.outs.map eI).length:Int)>2)) with
       | true=>
        rw[show qaa x=false from by grind[qaa,abOk,dupO,inR]]
        exact qsk ⟨h1,h16,h32,h47,h47,h48,h49,h50,trivial⟩
       | false=>
        cases h51:(x.kind==8) with
        | true=>
         cases h52:(decide ((↑(x.outs.map eI).length:Int)>0)) with
         | true=>
          rw[show qaa x=false from by grind[qaa,abOk,dupO,inR]]
          exact qsl ⟨h1,h16,h32,h47,h47,h48,h49,h50,h51,h52,trivial⟩
         | false=>
          cases h53:((↑(x.outs.map eI).length:Int)==2) with
          | true=>
           obtain⟨y54,hy54⟩:=qah (xs:=x.outs) (i:=0) (by grind[inR,inInt])
           obtain⟨y55,hy55⟩:=qah (xs:=x.outs) (i:=1) (by grind[inR,inInt])
           cases h56:(y54==y55) with
           | true=>
            rw[show qaa x=false from by grind[qaa,abOk,dupO,inR]]
            exact qsm ⟨h1,h16,h32,h47,h47,h48,h49,h50,h51,h52,h53,(by grind[inR,inInt]),(by grind[inR,inInt]),(qac eI hy54),(by grind[inR,inInt]),(by grind[inR,inInt]),(qac eI hy55),h56,trivial⟩
           | false=>
            rcases qaz x hx with⟨hL,l⟩ | ⟨hL,l⟩
            ·skip
             rw[show qaa x=false from by grind[qaa,abOk,dupO,inR]]
             exact qsn ⟨h1,h16,h32,h47,h47,h48,h49,h50,h51,h52,h53,(by grind[inR,inInt]),(by grind[inR,inInt]),(qac eI hy54),(by grind[inR,inInt]),(by grind[inR,inInt]),(qac eI hy55),h56,l,trivial⟩
            ·skip
             rw[show qaa x=true from by grind[qaa,abOk,dupO,inR]]
             exact qso ⟨h1,h16,h32,h47,h47,h48,h49,h50,h51,h52,h53,(by grind[inR,inInt]),(by grind[inR,inInt]),(qac eI hy54),(by grind[inR,inInt]),(by grind[inR,inInt]),(qac eI hy55),h56,l,trivial⟩
          | false=>
           rcases qaz x hx with⟨hL,l⟩ | ⟨hL,l⟩
           ·skip
            rw[show qaa x=false from by grind[qaa,abOk,dupO,inR]]
            exact qsp ⟨h1,h16,h32,h47,h47,h48,h49,h50,h51,h52,h53,l,trivial⟩
           ·skip
            rw[show qaa x=true from by grind[qaa,abOk,dupO,inR]]
            exact qsq ⟨h1,h16,h32,h47,h47,h48,h49,h50,h51,h52,h53,l,trivial⟩
        | false=>
         cases h57:((↑(x.outs.map eI).length:Int)==2) with
         | true=>
          obtain⟨y58,hy58⟩:=qah (xs:=x.outs) (i:=0) (by grind[inR,inInt])
          obtain⟨y59,hy59⟩:=qah (xs:=x.outs) (i:=1) (by grind[inR,inInt])
          cases h60:(y58==y59) with
          | true=>
           rw[show qaa x=false from by grind[qaa,abOk,dupO,inR]]
           exact qsr ⟨h1,h16,h32,h47,h47,h48,h49,h50,h51,h57,(by grind[inR,inInt]),(by grind[inR,inInt]),(qac eI hy58),(by grind[inR,inInt]),(by grind[inR,inInt]),(qac eI hy59),h60,trivial⟩
          | false=>
           rcases qaz x hx with⟨hL,l⟩ | ⟨hL,l⟩
           ·skip
            rw[show qaa x=false from by grind[qaa,abOk,dupO,inR]]
            exact qss ⟨h1,h16,h32,h47,h47,h48,h49,h50,h51,h57,(by grind[inR,inInt]),(by grind[inR,inInt]),(qac eI hy58),(by grind[inR,inInt]),(by grind[inR,inInt]),(qac eI hy59),h60,l,trivial⟩
           ·skip
            rw[show qaa x=true from by grind[qaa,abOk,dupO,inR]]
            exact qst ⟨h1,h16,h32,h47,h47,h48,h49,h50,h51,h57,(by grind[inR,inInt]),(by grind[inR,inInt]),(qac eI hy58),(by grind[inR,inInt]),(by grind[inR,inInt]),(qac eI hy59),h60,l,trivial⟩
         | false=>
          rcases qaz x hx with⟨hL,l⟩ | ⟨hL,l⟩
          ·skip
           rw[show qaa x=false from by grind[qaa,abOk,dupO,inR]]
           exact qsu ⟨h1,h16,h32,h47,h47,h48,h49,h50,h51,h57,l,trivial⟩
          ·skip
           rw[show qaa x=true from by grind[qaa,abOk,dupO,inR]]
           exact qsv ⟨h1,h16,h32,h47,h47,h48,h49,h50,h51,h57,l,trivial⟩
    | false=>
     cases h61:(x.kind==5) with
     | true=>
      cases h62:(x.a != 0) with
      | true=>
       rw[show qaa x=false from by grind[qaa,abOk,dupO,inR]]
       exact qsw ⟨h1,h16,h32,h47,h61,h61,h62,trivial⟩
      | false=>
       cases h63:(x.b != 0) with
       | true=>
        rw[show qaa x=false from by grind[qaa,abOk,dupO,inR]]
        exact qsx ⟨h1,h16,h32,h47,h61,h61,h62,h63,trivial⟩
       | false=>
        cases h64:(decide ((↑(x.outs.map eI).length:Int)>2)) with
        | true=>
         rw[show qaa x=false from by grind[qaa,abOk,dupO,inR]]
         exact qsy ⟨h1,h16,h32,h47,h61,h61,h62,h63,h64,trivial⟩
        | false=>
         cases h65:(x.kind==8) with
         | true=>
          cases h66:(decide ((↑(x.outs.map eI).length:Int)>0)) with
          | true=>
           rw[show qaa x=false from by grind[qaa,abOk,dupO,inR]]
           exact qsz ⟨h1,h16,h32,h47,h61,h61,h62,h63,h64,h65,h66,trivial⟩
          | false=>
           cases h67:((↑(x.outs.map eI).length:Int)==2) with
           | true=>
            obtain⟨y68,hy68⟩:=qah (xs:=x.outs) (i:=0) (by grind[inR,inInt])
            obtain⟨y69,hy69⟩:=qah (xs:=x.outs) (i:=1) (by grind[inR,inInt])
            cases h70:(y68==y69) with
            | true=>
             rw[show qaa x=false from by grind[qaa,abOk,dupO,inR]]
             exact qsA ⟨h1,h16,h32,h47,h61,h61,h62,h63,h64,h65,h66,h67,(by grind[inR,inInt]),(by grind[inR,inInt]),(qac eI hy68),(by grind[inR,inInt]),(by grind[inR,inInt]),(qac eI hy69),h70,trivial⟩
            | false=>
             rcases qaz x hx with⟨hL,l⟩ | ⟨hL,l⟩
             ·skip
              rw[show qaa x=false from by grind[qaa,abOk,dupO,inR]]
              exact qsB ⟨h1,h16,h32,h47,h61,h61,h62,h63,h64,h65,h66,h67,(by grind[inR,inInt]),(by grind[inR,inInt]),(qac eI hy68),(by grind[inR,inInt]),(by grind[inR,inInt]),(qac eI hy69),h70,l,trivial⟩
             ·skip
              rw[show qaa x=true from by grind[qaa,abOk,dupO,inR]]
              exact qsC ⟨h1,h16,h32,h47,h61,h61,h62,h63,h64,h65,h66,h67,(by grind[inR,inInt]),(by grind[inR,inInt]),(qac eI hy68),(by grind[inR,inInt]),(by grind[inR,inInt]),(qac eI hy69),h70,l,trivial⟩
           | false=>
            rcases qaz x hx with⟨hL,l⟩ | ⟨hL,l⟩
            ·skip
             rw[show qaa x=false from by grind[qaa,abOk,dupO,inR]]
             exact qsD ⟨h1,h16,h32,h47,h61,h61,h62,h63,h64,h65,h66,h67,l,trivial⟩
            ·skip
             rw[show qaa x=true from by grind[qaa,abOk,dupO,inR]]
             exact qsE ⟨h1,h16,h32,h47,h61,h61,h62,h63,h64,h65,h66,h67,l,trivial⟩
         | false=>
          cases h71:((↑(x.outs.map eI).length:Int)==2) with
          | true=>
           obtain⟨y72,hy72⟩:=qah (xs:=x.outs) (i:=0) (by grind[inR,inInt])
           obtain⟨y73,hy73⟩:=qah (xs:=x.outs) (i:=1) (by grind[inR,inInt])
           cases h74:(y72==y73) with
           | true=>
            rw[show qaa x=false from by grind[qaa,abOk,dupO,inR]]
            exact qsF ⟨h1,h16,h32,h47,h61,h61,h62,h63,h64,h65,h71,(by grind[inR,inInt]),(by grind[inR,inInt]),(qac eI hy72),(by grind[inR,inInt]),(by grind[inR,inInt]),(qac eI hy73),h74,trivial⟩
           | false=>
            rcases qaz x hx with⟨hL,l⟩ | ⟨hL,l⟩
            ·skip
             rw[show qaa x=false from by grind[qaa,abOk,dupO,inR]]
             exact qsG ⟨h1,h16,h32,h47,h61,h61,h62,h63,h64,h65,h71,(by grind[inR,inInt]),(by grind[inR,inInt]),(qac eI hy72),(by grind[inR,inInt]),(by grind[inR,inInt]),(qac eI hy73),h74,l,trivial⟩
            ·skip
             rw[show qaa x=true from by grind[qaa,abOk,dupO,inR]]
             exact qsH ⟨h1,h16,h32,h47,h61,h61,h62,h63,h64,h65,h71,(by grind[inR,inInt]),(by grind[inR,inInt]),(qac eI hy72),(by grind[inR,inInt]),(by grind[inR,inInt]),(qac eI hy73),h74,l,trivial⟩
          | false=>
           rcases qaz x hx with⟨hL,l⟩ | ⟨hL,l⟩
           ·skip
            rw[show qaa x=false from by grind[qaa,abOk,dupO,inR]]
            exact qsI ⟨h1,h16,h32,h47,h61,h61,h62,h63,h64,h65,h71,l,trivial⟩
           ·skip
            rw[show qaa x=true from by grind[qaa,abOk,dupO,inR]]
            exact qsJ ⟨h1,h16,h32,h47,h61,h61,h62,h63,h64,h65,h71,l,trivial⟩
     | false=>
      cases h75:(x.kind==6) with
      | true=>
       cases h76:(x.a != 0) with
       | true=>
        rw[show qaa x=false from by grind[qaa,abOk,dupO,inR]]
        exact qsK ⟨h1,h16,h32,h47,h61,h75,h75,h76,trivial⟩
       | false=>
        cases h77:(x.b != 0) with
        | true=>
         rw[show qaa x=false from by grind[qaa,abOk,dupO,inR]]
         exact qsL ⟨h1,h16,h32,h47,h61,h75,h75,h76,h77,trivial⟩
        | false=>
         cases h78:(decide ((↑(x.outs.map eI).length:Int)>2)) with
         | true=>
          rw[show qaa x=false from by grind[qaa,abOk,dupO,inR]]
          exact qsM ⟨h1,h16,h32,h47,h61,h75,h75,h76,h77,h78,trivial⟩
         | false=>
          cases h79:(x.kind==8) with
          | true=>
           cases h80:(decide ((↑(x.outs.map eI).length:Int)>0)) with
           | true=>
            rw[show qaa x=false from by grind[qaa,abOk,dupO,inR]]
            exact qsN ⟨h1,h16,h32,h47,h61,h75,h75,h76,h77,h78,h79,h80,trivial⟩
           | false=>
            cases h81:((↑(x.outs.map eI).length:Int)==2) with
            | true=>
             obtain⟨y82,hy82⟩:=qah (xs:=x.outs) (i:=0) (by grind[inR,inInt])
             obtain⟨y83,hy83⟩:=qah (xs:=x.outs) (i:=1) (by grind[inR,inInt])
             cases h84:(y82==y83) with
             | true=>
              rw[show qaa x=false from by grind[qaa,abOk,dupO,inR]]
              exact qsO ⟨h1,h16,h32,h47,h61,h75,h75,h76,h77,h78,h79,h80,h81,(by grind[inR,inInt]),(by grind[inR,inInt]),(qac eI hy82),(by grind[inR,inInt]),(by grind[inR,inInt]),(qac eI hy83),h84,trivial⟩
             | false=>
              rcases qaz x hx with⟨hL,l⟩ | ⟨hL,l⟩
              ·skip
               rw[show qaa x=false from by grind[qaa,abOk,dupO,inR]]
               exact qsP ⟨h1,h16,h32,h47,h61,h75,h75,h76,h77,h78,h79,h80,h81,(by grind[inR,inInt]),(by grind[inR,inInt]),(qac eI hy82),(by grind[inR,inInt]),(by grind[inR,inInt]),(qac eI hy83),h84,l,trivial⟩
              ·skip
               rw[show qaa x=true from by grind[qaa,abOk,dupO,inR]]
               exact qsQ ⟨h1,h16,h32,h47,h61,h75,h75,h76,h77,h78,h79,h80,h81,(by grind[inR,inInt]),(by grind[inR,inInt]),(qac eI hy82),(by grind[inR,inInt]),(by grind[inR,inInt]),(qac eI hy83),h84,l,trivial⟩
            | false=>
             rcases qaz x hx with⟨hL,l⟩ | ⟨hL,l⟩
             ·skip
              rw[show qaa x=false from by grind[qaa,abOk,dupO,inR]]
              exact qsR ⟨h1,h16,h32,h47,h61,h75,h75,h76,h77,h78,h79,h80,h81,l,trivial⟩
             ·skip
              rw[show qaa x=true from by grind[qaa,abOk,dupO,inR]]
              exact qsS ⟨h1,h16,h32,h47,h61,h75,h75,h76,h77,h78,h79,h80,h81,l,trivial⟩
          | false=>
           cases h85:((↑(x.outs.map eI).length:Int)==2) with
           | true=>
            obtain⟨y86,hy86⟩:=qah (xs:=x.outs) (i:=0) (by grind[inR,inInt])
            obtain⟨y87,hy87⟩:=qah (xs:=x.outs) (i:=1) (by grind[inR,inInt])
            cases h88:(y86==y87) with
            | true=>
             rw[show qaa x=false from by grind[qaa,abOk,dupO,inR]]
             exact qsT ⟨h1,h16,h32,h47,h61,h75,h75,h76,h77,h78,h79,h85,(by grind[inR,inInt]),(by grind[inR,inInt]),(qac eI hy86),(by grind[inR,inInt]),(by grind[inR,inInt]),(qac eI hy87),h88,trivial⟩
            | false=>
             rcases qaz x hx with⟨hL,l⟩ | ⟨hL,l⟩
             ·skip
              rw[show qaa x=false from by grind[qaa,abOk,dupO,inR]]
              exact qsU ⟨h1,h16,h32,h47,h61,h75,h75,h76,h77,h78,h79,h85,(by grind[inR,inInt]),(by grind[inR,inInt]),(qac eI hy86),(by grind[inR,inInt]),(by grind[inR,inInt]),(qac eI hy87),h88,l,trivial⟩
             ·skip
              rw[show qaa x=true from by grind[qaa,abOk,dupO,inR]]
              exact qsV ⟨h1,h16,h32,h47,h61,h75,h75,h76,h77,h78,h79,h85,(by grind[inR,inInt]),(by grind[inR,inInt]),(qac eI hy86),(by grind[inR,inInt]),(by grind[inR,inInt]),(qac eI hy87),h88,l,trivial⟩
           | false=>
            rcases qaz x hx with⟨hL,l⟩ | ⟨hL,l⟩
            ·skip
             rw[show qaa x=false from by grind[qaa,abOk,dupO,inR]]
             exact qsW ⟨h1,h16,h32,h47,h61,h75,h75,h76,h77,h78,h79,h85,l,trivial⟩
            ·skip
             rw[show qaa x=true from by grind[qaa,abOk,dupO,inR]]
             exact qsX ⟨h1,h16,h32,h47,h61,h75,h75,h76,h77,h78,h79,h85,l,trivial⟩
      | false=>
       cases h89:(x.kind==7) with
       | true=>
        cases h90:(x.a != 0) with
        | true=>
         rw[show qaa x=false from by grind[qaa,abOk,dupO,inR]]
         exact qsY ⟨h1,h16,h32,h47,h61,h75,h89,h89,h90,trivial⟩
        | false=>
         cases h91:(x.b != 0) with
         | true=>
          rw[show qaa x=false from by grind[qaa,abOk,dupO,inR]]
          exact qsZ ⟨h1,h16,h32,h47,h61,h75,h89,h89,h90,h91,trivial⟩
         | false=>
          cases h92:(decide ((↑(x.outs.map eI).length:Int)>2)) with
          | true=>
           rw[show qaa x=false from by grind[qaa,abOk,dupO,inR]]
           exact qs0 ⟨h1,h16,h32,h47,h61,h75,h89,h89,h90,h91,h92,trivial⟩
          | false=>
           cases h93:(x.kind==8) with
           | true=>
            cases h94:(decide ((↑(x.outs.map eI).length:Int)>0)) with
            | true=>
             rw[show qaa x=false from by grind[qaa,abOk,dupO,inR]]
             exact qs1 ⟨h1,h16,h32,h47,h61,h75,h89,h89,h90,h91,h92,h93,h94,trivial⟩
            | false=>
             cases h95:((↑(x.outs.map eI).length:Int)==2) with
             | true=>
              obtain⟨y96,hy96⟩:=qah (xs:=x.outs) (i:=0) (by grind[inR,inInt])
              obtain⟨y97,hy97⟩:=qah (xs:=x.outs) (i:=1) (by grind[inR,inInt])
              cases h98:(y96==y97) with
              | true=>
               rw[show qaa x=false from by grind[qaa,abOk,dupO,inR]]
               exact qs2 ⟨h1,h16,h32,h47,h61,h75,h89,h89,h90,h91,h92,h93,h94,h95,(by grind[inR,inInt]),(by grind[inR,inInt]),(qac eI hy96),(by grind[inR,inInt]),(by grind[inR,inInt]),(qac eI hy97),h98,trivial⟩
              | false=>
               rcases qaz x hx with⟨hL,l⟩ | ⟨hL,l⟩
               ·skip
                rw[show qaa x=false from by grind[qaa,abOk,dupO,inR]]
                exact qs3 ⟨h1,h16,h32,h47,h61,h75,h89,h89,h90,h91,h92,h93,h94,h95,(by grind[inR,inInt]),(by grind[inR,inInt]),(qac eI hy96),(by grind[inR,inInt]),(by grind[inR,inInt]),(qac eI hy97),h98,l,trivial⟩
               ·skip
                rw[show qaa x=true from by grind[qaa,abOk,dupO,inR]]
                exact qs4 ⟨h1,h16,h32,h47,h61,h75,h89,h89,h90,h91,h92,h93,h94,h95,(by grind[inR,inInt]),(by grind[inR,inInt]),(qac eI hy96),(by grind[inR,inInt]),(by grind[inR,inInt]),(qac eI hy97),h98,l,trivial⟩
             | false=>
              rcases qaz x hx with⟨hL,l⟩ | ⟨hL,l⟩
              ·skip
               rw[show qaa x=false from by grind[qaa,abOk,dupO,inR]]
               exact qs5 ⟨h1,h16,h32,h47,h61,h75,h89,h89,h90,h91,h92,h93,h94,h95,l,trivial⟩
              ·skip
               rw[show qaa x=true from by grind[qaa,abOk,dupO,inR]]
               exact qs6 ⟨h1,h16,h32,h47,h61,h75,h89,h89,h90,h91,h92,h93,h94,h95,l,trivial⟩
           | false=>
            cases h99:((↑(x.outs.map eI).length:Int)==2) with
            | true=>
             obtain⟨y100,hy100⟩:=qah (xs:=x.outs) (i:=0) (by grind[inR,inInt])
             obtain⟨y101,hy101⟩:=qah (xs:=x.outs) (i:=1) (by grind[inR,inInt])
             cases h102:(y100==y101) with
             | true=>
              rw[show qaa x=false from by grind[qaa,abOk,dupO,inR]]
              exact qs7 ⟨h1,h16,h32,h47,h61,h75,h89,h89,h90,h91,h92,h93,h99,(by grind[inR,inInt]),(by grind[inR,inInt]),(qac eI hy100),(by grind[inR,inInt]),(by grind[inR,inInt]),(qac eI hy101),h102,trivial⟩
             | false=>
              rcases qaz x hx with⟨hL,l⟩ | ⟨hL,l⟩
              ·skip
               rw[show qaa x=false from by grind[qaa,abOk,dupO,inR]]
               exact qs8 ⟨h1,h16,h32,h47,h61,h75,h89,h89,h90,h91,h92,h93,h99,(by grind[inR,inInt]),(by grind[inR,inInt]),(qac eI hy100),(by grind[inR,inInt]),(by grind[inR,inInt]),(qac eI hy101),h102,l,trivial⟩
              ·skip
               rw[show qaa x=true from by grind[qaa,abOk,dupO,inR]]
               exact qs9 ⟨h1,h16,h32,h47,h61,h75,h89,h89,h90,h91,h92,h93,h99,(by grind[inR,inInt]),(by grind[inR,inInt]),(qac eI hy100),(by grind[inR,inInt]),(by grind[inR,inInt]),(qac eI hy101),h102,l,trivial⟩
            | false=>
             rcases qaz x hx with⟨hL,l⟩ | ⟨hL,l⟩
             ·skip
              rw[show qaa x=false from by grind[qaa,abOk,dupO,inR]]
              exact qta ⟨h1,h16,h32,h47,h61,h75,h89,h89,h90,h91,h92,h93,h99,l,trivial⟩
             ·skip
              rw[show qaa x=true from by grind[qaa,abOk,dupO,inR]]
              exact qtb ⟨h1,h16,h32,h47,h61,h75,h89,h89,h90,h91,h92,h93,h99,l,trivial⟩
       | false=>
        cases h103:(x.kind==8) with
        | true=>
         cases h104:(x.a != 0) with
         | true=>
          rw[show qaa x=false from by grind[qaa,abOk,dupO,inR]]
          exact qtc ⟨h1,h16,h32,h47,h61,h75,h89,h103,h104,trivial⟩
         | false=>
          cases h105:(x.b != 0) with
          | true=>
           rw[show qaa x=false from by grind[qaa,abOk,dupO,inR]]
           exact qtd ⟨h1,h16,h32,h47,h61,h75,h89,h103,h104,h105,trivial⟩
          | false=>
           cases h106:(decide ((↑(x.outs.map eI).length:Int)>2)) with
           | true=>
            rw[show qaa x=false from by grind[qaa,abOk,dupO,inR]]
            exact qte ⟨h1,h16,h32,h47,h61,h75,h89,h103,h104,h105,h106,trivial⟩
           | false=>
            cases h107:(decide ((↑(x.outs.map eI).length:Int)>0)) with
            | true=>
             rw[show qaa x=false from by grind[qaa,abOk,dupO,inR]]
             exact qtf ⟨h1,h16,h32,h47,h61,h75,h89,h103,h104,h105,h106,h103,h107,trivial⟩
            | false=>
             cases h108:((↑(x.outs.map eI).length:Int)==2) with
             | true=>
              obtain⟨y109,hy109⟩:=qah (xs:=x.outs) (i:=0) (by grind[inR,inInt])
              obtain⟨y110,hy110⟩:=qah (xs:=x.outs) (i:=1) (by grind[inR,inInt])
              cases h111:(y109==y110) with
              | true=>
               rw[show qaa x=false from by grind[qaa,abOk,dupO,inR]]
               exact qtg ⟨h1,h16,h32,h47,h61,h75,h89,h103,h104,h105,h106,h103,h107,h108,(by grind[inR,inInt]),(by grind[inR,inInt]),(qac eI hy109),(by grind[inR,inInt]),(by grind[inR,inInt]),(qac eI hy110),h111,trivial⟩
              | false=>
               rcases qaz x hx with⟨hL,l⟩ | ⟨hL,l⟩
               ·skip
                rw[show qaa x=false from by grind[qaa,abOk,dupO,inR]]
                exact qth ⟨h1,h16,h32,h47,h61,h75,h89,h103,h104,h105,h106,h103,h107,h108,(by grind[inR,inInt]),(by grind[inR,inInt]),(qac eI hy109),(by grind[inR,inInt]),(by grind[inR,inInt]),(qac eI hy110),h111,l,trivial⟩
               ·skip
                rw[show qaa x=true from by grind[qaa,abOk,dupO,inR]]
                exact qti ⟨h1,h16,h32,h47,h61,h75,h89,h103,h104,h105,h106,h103,h107,h108,(by grind[inR,inInt]),(by grind[inR,inInt]),(qac eI hy109),(by grind[inR,inInt]),(by grind[inR,inInt]),(qac eI hy110),h111,l,trivial⟩
             | false=>
              rcases qaz x hx with⟨hL,l⟩ | ⟨hL,l⟩
              ·skip
               rw[show qaa x=false from by grind[qaa,abOk,dupO,inR]]
               exact qtj ⟨h1,h16,h32,h47,h61,h75,h89,h103,h104,h105,h106,h103,h107,h108,l,trivial⟩
              ·skip
               rw[show qaa x=true from by grind[qaa,abOk,dupO,inR]]
               exact qtk ⟨h1,h16,h32,h47,h61,h75,h89,h103,h104,h105,h106,h103,h107,h108,l,trivial⟩
        | false=>
         rw[show qaa x=false from by grind[qaa,abOk,dupO,inR]]
         exact qtl ⟨h1,h16,h32,h47,h61,h75,h89,h103,trivial⟩
end Go.Proofs.YtenekpkjlgddnaaGreat
