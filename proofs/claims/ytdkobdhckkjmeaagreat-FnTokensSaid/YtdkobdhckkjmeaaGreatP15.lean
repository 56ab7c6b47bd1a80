import Derived.Test.YtdkobdhckkjmeaaGreatP21
import Derived.Test.YtdkobdhckkjmeaaGreatGQ
import Derived.Test.YtdkobdhckkjmeaaGreatGR
set_option linter.unusedVariables false
set_option linter.unusedSimpArgs false
namespace Go.Proofs.YtdkobdhckkjmeaaGreat
open Go.Sx Go.RowKit Go.Proofs.Tryz
def qbb(s:Stamp):Bool:=inR s.epoch 0 3&&inR s.turn 0 6
def qaL(k v:Int):Bool:=inR k 0 99&&inR v 0 999
def qaB(r:Record):Bool:=inR r.op 0 7&&qbb r.stamp&&qaL r.key r.val
def qaG(s:Stamp):Stamp×Bool:=if qbb s&&decide (s.turn<6) then (⟨s.epoch,s.turn+1⟩,true) else (s,false)
def less(a b:Int):Int:=if b<a then b else a
def abOk(x:Node):Bool:=
 if x.kind=2 then inR x.a 0 999&&x.b==0
 else if x.kind=3 then inR x.a 1 10&&inR x.b 0 (IntKind.i64.wrap (x.a-1))
 else if x.kind=4 then inR x.a 0 99&&x.b==0
 else inR x.kind 1 8&&x.a==0&&x.b==0
def okAll(l:List Int):Bool:=!(l.any fun k=>!inR k 0 7)
def dupO(l:List Int):Bool:=decide (l.length=2∧l[0]?=l[1]?)
def qab(x:Node):Bool:=abOk x&&decide (x.outs.length≤2)&&!(x.kind==8&&decide (0<x.outs.length))&&!dupO x.outs&&okAll x.outs
theorem look{α:Type}{xs:List α}{i:Int}(h0:0≤i)(h1:i<xs.length):∃a,xs[i.toNat]?=some a:=qal (by omega)
theorem qad{α:Type}{xs:List α}{i:Nat}{a:α}(f:α→List D)(h:xs[i]?=some a):(xs.map f)[i]?=some (f a):=by simp[h]
theorem qa9(x:Node)(hx:x.outs.length≤8388608):(okAll x.outs=false∧qam prog (qaa f255 0) (qar (x.outs.map eI) 0) .ret (qa3 false))∨(okAll x.outs=true∧qam prog (qaa f255 0) (qar (x.outs.map eI) 0) (.exit 1) qa5):=by
 have l:=qaW (P:=prog) (c:=(qaa f255 0)) x.outs (fun k=>!inR k 0 7) (fun i=>qar (x.outs.map eI) i) (X:=fun _ _=>qa3 false) qaE (qaf 1)
  (fun i a ha h=>qBT ⟨lt1 (lt_of ha),lt0,lt2 (lt_of ha),qac eI ha,qbN a 0 7,h,up1 (lt_of ha) hx,trivial⟩)
  (fun i a ha h=>qBS ⟨lt1 (lt_of ha),lt0,lt2 (lt_of ha),qac eI ha,qbN a 0 7,h,trivial⟩)
  (qBU ⟨ge1,trivial⟩)
 unfold okAll;rcases l with⟨_,_,h1,h2⟩ | ⟨i,a,_,_,_,_,h1,h2⟩
 ·exact .inr ⟨by rw[h1];rfl,h2⟩
 ·exact .inl ⟨by rw[h1];rfl,h2⟩
theorem qei(x:Node)(hx:x.outs.length≤2):((okAll x.outs&&!dupO x.outs)=false∧qam prog (qaa f243 0) (qbe x.kind x.a x.b (x.outs.map eI) 0) .ret (qc7 false))∨((okAll x.outs&&!dupO x.outs)=true∧qam prog (qaa f243 0) (qbe x.kind x.a x.b (x.outs.map eI) 0) (.exit 1) qdr):=by
 obtain⟨kd,a,b,outs⟩:=x;have cl:=fun k=>qbo k 0 7
 match outs,hx with
 | [],_=>exact .inr ⟨rfl,.last (qaf 1) (qmz ⟨rfl,trivial⟩)⟩
 | [k],_=>
  cases h1:inR k 0 7 with
  | false=>exact .inl ⟨by simp[okAll,h1],.last qaE (qmy ⟨rfl,by omega,by simp,rfl,cl k,by rw[h1];rfl,trivial⟩)⟩
  | true=>
   refine .inr ⟨by simp[okAll,dupO,h1],.more (qqO ⟨rfl,by omega,by simp,rfl,cl k,by rw[h1];rfl,rfl,⟨by omega,by omega⟩,trivial⟩) (.last (qaf 1) (qmz ⟨rfl,trivial⟩))⟩
 | [k,m],_=>
  cases h1:inR k 0 7 with
  | false=>exact .inl ⟨by simp[okAll,h1],.last qaE (qmy ⟨rfl,by omega,by simp,rfl,cl k,by rw[h1];rfl,trivial⟩)⟩
  | true=>
   have first:Tr prog (qaa f243 0) (qbe kd a b ([k,m].map eI) 0) .normal (qbe kd a b ([k,m].map eI) (0+1)):=qqO ⟨rfl,by omega,by simp,rfl,cl k,by rw[h1];rfl,rfl,⟨by omega,by omega⟩,trivial⟩
   cases h2:inR m 0 7 with
   | false=>exact .inl ⟨by simp[okAll,h1,h2],.more first (.last qaE (qmy ⟨rfl,by omega,by simp,rfl,cl m,by rw[h2];rfl,trivial⟩))⟩
   | true=>
    cases h3:(k==m) with
    | true=>exact .inl ⟨by simp[okAll,dupO,h1,h2]at h3 ⊢;exact h3,.more first (.last qaE (qBg ⟨rfl,by omega,by simp,rfl,cl m,by rw[h2];rfl,rfl,by omega,by simp,rfl,by omega,by simp,rfl,h3,trivial⟩))⟩
    | false=>exact .inr ⟨by simp[okAll,dupO,h1,h2]at h3 ⊢;exact h3,.more first (.more (qBh ⟨rfl,by omega,by simp,rfl,cl m,by rw[h2];rfl,rfl,by omega,by simp,rfl,by omega,by simp,rfl,h3,⟨by omega,by omega⟩,trivial⟩) (.last (qaf 1) (qmz ⟨rfl,trivial⟩)))⟩
theorem qqP(s:Stamp):Rt 244 [.agg s.e] [.one (B (qbb s))]:=by
 have c1:=qbo s.epoch 0 3;cases h2:(inR s.epoch 0 3) with
 | true=>
  have c3:=qbo s.turn 0 6;rw[show qbb s=inR s.turn 0 6 from by grind[qbb]];exact qAK ⟨c1,h2,c3,trivial⟩
 | false=>
  rw[show qbb s=false from by grind[qbb]];exact qAL ⟨c1,h2,trivial⟩
theorem qqQ(s:Stamp):Rt 256 [.agg s.e] [.one (B (qbb s))]:=by
 have c1:=qbN s.epoch 0 3;cases h2:(inR s.epoch 0 3) with
 | true=>
  have c3:=qbN s.turn 0 6;rw[show qbb s=inR s.turn 0 6 from by grind[qbb]];exact qAM ⟨c1,h2,c3,trivial⟩
 | false=>
  rw[show qbb s=false from by grind[qbb]];exact qAN ⟨c1,h2,trivial⟩
theorem qqR(k v:Int):Rt 257 [.one (I k),.one (I v)] [.one (B (qaL k v))]:=by
 have c1:=qbN k 0 99;cases h2:(inR k 0 99) with
 | true=>
  have c3:=qbN v 0 999;rw[show qaL k v=inR v 0 999 from by grind[qaL]];exact qA9 ⟨c1,h2,c3,trivial⟩
 | false=>
  rw[show qaL k v=false from by grind[qaL]];exact qBa ⟨c1,h2,trivial⟩
theorem qdQ(r:Record):Rt 122 [.agg r.e] [.one (B (qaB r))]:=by
 have c1:=qbo r.op 0 7;cases h2:(inR r.op 0 7) with
 | true=>
  have c3:=qqP r.stamp;cases h4:(qbb r.stamp) with
  | true=>
   have c5:=qbo r.key 0 99;cases h6:(inR r.key 0 99) with
   | true=>
    have c7:=qbo r.val 0 999;rw[show qaB r=inR r.val 0 999 from by grind[qaB,qaL]];exact qAD ⟨c1,h2,c3,h4,c5,h6,c7,trivial⟩
   | false=>
    rw[show qaB r=false from by grind[qaB,qaL]];exact qAE ⟨c1,h2,c3,h4,c5,h6,trivial⟩
  | false=>
   rw[show qaB r=false from by grind[qaB,qaL]];exact qAF ⟨c1,h2,c3,h4,trivial⟩
 | false=>
  rw[show qaB r=false from by grind[qaB,qaL]];exact qAG ⟨c1,h2,trivial⟩
theorem qds(r:Record):Rt 145 [.agg r.e] [.one (B (qaB r))]:=by
 have c1:=qbN r.op 0 7;cases h2:(inR r.op 0 7) with
 | true=>
  have c3:=qqQ r.stamp;cases h4:(qbb r.stamp) with
  | true=>
   have c5:=qqR r.key r.val;rw[show qaB r=qaL r.key r.val from by grind[qaB,qaL]];exact qAH ⟨c1,h2,c3,h4,c5,trivial⟩
  | false=>
   rw[show qaB r=false from by grind[qaB,qaL]];exact qAI ⟨c1,h2,c3,h4,trivial⟩
 | false=>
  rw[show qaB r=false from by grind[qaB,qaL]];exact qAJ ⟨c1,h2,trivial⟩
theorem qgl(s:Stamp):Rt 296 [.agg s.e] [.agg ((qaG s).1).e,.one (B ((qaG s).2))]:=by
 have c1:=qqP s;cases h2:(qbb s) with
 | true=>
  cases h3:(decide (s.turn≥6)) with
  | true=>
   rw[show qaG s=(s,false) from by grind[qaG,qbb,inR]];exact qAP ⟨c1,(by rw[h2];rfl),h3,trivial⟩
  | false=>
   rw[show qaG s=((⟨s.epoch,s.turn+1⟩:Stamp),true) from by grind[qaG,qbb,inR]];exact qAQ ⟨c1,(by rw[h2];rfl),h3,(by grind[qbb,inR,inInt]),trivial⟩
 | false=>
  rw[show qaG s=(s,false) from by grind[qaG,qbb,inR]];exact qAO ⟨c1,(by rw[h2];rfl),trivial⟩
theorem qDA(a b:Int):Rt 323 [.one (I a),.one (I b)] [.one (I (less a b))]:=by
 cases h1:(decide (b<a)) with
 | true=>
  rw[show less a b=b from by grind[less]];exact qA7 ⟨h1,trivial⟩
 | false=>
  rw[show less a b=a from by grind[less]];exact qA8 ⟨h1,trivial⟩
theorem qqS(x:Node)(hx:x.outs.length≤8388608):Rt 243 [.agg x.e] [.one (B (qab x))]:=by
 cases h1:(x.kind==2) with
 | true=>
  have c2:=qbo x.a 0 999;have c3:=qbo x.kind 1 8;cases h4:(inR x.kind 1 8) with
  | true=>
   cases h5:(inR x.a 0 999) with
   | true=>
    cases h6:(x.b==0) with
    | true=>
     cases h7:(decide ((↑(x.outs.map eI).length:Int)>2)) with
     | true=>
      rw[show qab x=false from by grind[qab,abOk,dupO,inR]];exact qBe ⟨h1,c2,c3,(by rw[h4];rfl),(by rw[h5];rfl),(by rw[h6];rfl),h7,trivial⟩
     | false=>
      cases h8:(x.kind==8) with
      | true=>
       cases h9:(decide ((↑(x.outs.map eI).length:Int)>0)) with
       | true=>
        rw[show qab x=false from by grind[qab,abOk,dupO,inR]];exact qBf ⟨h1,c2,c3,(by rw[h4];rfl),(by rw[h5];rfl),(by rw[h6];rfl),h7,h8,h9,trivial⟩
       | false=>
        rcases qei x (by grind) with⟨hL,l⟩ | ⟨hL,l⟩
        ·skip
         rw[show qab x=false from by grind[qab,abOk,dupO,inR]];exact qBi ⟨h1,c2,c3,(by rw[h4];rfl),(by rw[h5];rfl),(by rw[h6];rfl),h7,h8,h9,l,trivial⟩
        ·skip
         rw[show qab x=true from by grind[qab,abOk,dupO,inR]];exact qBj ⟨h1,c2,c3,(by rw[h4];rfl),(by rw[h5];rfl),(by rw[h6];rfl),h7,h8,h9,l,trivial⟩
      | false=>
       rcases qei x (by grind) with⟨hL,l⟩ | ⟨hL,l⟩
       ·skip
        rw[show qab x=false from by grind[qab,abOk,dupO,inR]];exact qBk ⟨h1,c2,c3,(by rw[h4];rfl),(by rw[h5];rfl),(by rw[h6];rfl),h7,h8,l,trivial⟩
       ·skip
        rw[show qab x=true from by grind[qab,abOk,dupO,inR]];exact qBl ⟨h1,c2,c3,(by rw[h4];rfl),(by rw[h5];rfl),(by rw[h6];rfl),h7,h8,l,trivial⟩
    | false=>
     rw[show qab x=false from by grind[qab,abOk,dupO,inR]];exact qBd ⟨h1,c2,c3,(by rw[h4];rfl),(by rw[h5];rfl),(by rw[h6];rfl),trivial⟩
   | false=>
    rw[show qab x=false from by grind[qab,abOk,dupO,inR]];exact qBc ⟨h1,c2,c3,(by rw[h4];rfl),(by rw[h5];rfl),trivial⟩
  | false=>
   rw[show qab x=false from by grind[qab,abOk,dupO,inR]];exact qBb ⟨h1,c2,c3,(by rw[h4];rfl),trivial⟩
 | false=>
  cases h10:(x.kind==3) with
  | true=>
   have c11:=qbo x.a 1 10;have c12:=qbo x.b 0 (IntKind.i64.wrap (x.a-1));have c13:=qbo x.kind 1 8;cases h14:(inR x.kind 1 8) with
   | true=>
    cases h15:(inR x.a 1 10) with
    | true=>
     cases h16:(inR x.b 0 (IntKind.i64.wrap (x.a-1))) with
     | true=>
      cases h17:(decide ((↑(x.outs.map eI).length:Int)>2)) with
      | true=>
       rw[show qab x=false from by grind[qab,abOk,dupO,inR]];exact qBp ⟨h1,h10,c11,c12,c13,(by rw[h14];rfl),(by rw[h15];rfl),(by rw[h16];rfl),h17,trivial⟩
      | false=>
       cases h18:(x.kind==8) with
       | true=>
        cases h19:(decide ((↑(x.outs.map eI).length:Int)>0)) with
        | true=>
         rw[show qab x=false from by grind[qab,abOk,dupO,inR]];exact qBq ⟨h1,h10,c11,c12,c13,(by rw[h14];rfl),(by rw[h15];rfl),(by rw[h16];rfl),h17,h18,h19,trivial⟩
        | false=>
         rcases qei x (by grind) with⟨hL,l⟩ | ⟨hL,l⟩
         ·skip
          rw[show qab x=false from by grind[qab,abOk,dupO,inR]];exact qBr ⟨h1,h10,c11,c12,c13,(by rw[h14];rfl),(by rw[h15];rfl),(by rw[h16];rfl),h17,h18,h19,l,trivial⟩
         ·skip
          rw[show qab x=true from by grind[qab,abOk,dupO,inR]];exact qBs ⟨h1,h10,c11,c12,c13,(by rw[h14];rfl),(by rw[h15];rfl),(by rw[h16];rfl),h17,h18,h19,l,trivial⟩
       | false=>
        rcases qei x (by grind) with⟨hL,l⟩ | ⟨hL,l⟩
        ·skip
         rw[show qab x=false from by grind[qab,abOk,dupO,inR]];exact qBt ⟨h1,h10,c11,c12,c13,(by rw[h14];rfl),(by rw[h15];rfl),(by rw[h16];rfl),h17,h18,l,trivial⟩
        ·skip
         rw[show qab x=true from by grind[qab,abOk,dupO,inR]];exact qBu ⟨h1,h10,c11,c12,c13,(by rw[h14];rfl),(by rw[h15];rfl),(by rw[h16];rfl),h17,h18,l,trivial⟩
     | false=>
      rw[show qab x=false from by grind[qab,abOk,dupO,inR]];exact qBo ⟨h1,h10,c11,c12,c13,(by rw[h14];rfl),(by rw[h15];rfl),(by rw[h16];rfl),trivial⟩
    | false=>
     rw[show qab x=false from by grind[qab,abOk,dupO,inR]];exact qBn ⟨h1,h10,c11,c12,c13,(by rw[h14];rfl),(by rw[h15];rfl),trivial⟩
   | false=>
    rw[show qab x=false from by grind[qab,abOk,dupO,inR]];exact qBm ⟨h1,h10,c11,c12,c13,(by rw[h14];rfl),trivial⟩
  | false=>
   cases h20:(x.kind==4) with
   | true=>
    have c21:=qbo x.a 0 99;have c22:=qbo x.kind 1 8;cases h23:(inR x.kind 1 8) with
    | true=>
     cases h24:(inR x.a 0 99) with
     | true=>
      cases h25:(x.b==0) with
      | true=>
       cases h26:(decide ((↑(x.outs.map eI).length:Int)>2)) with
       | true=>
        rw[show qab x=false from by grind[qab,abOk,dupO,inR]];exact qBy ⟨h1,h10,h20,c21,c22,(by rw[h23];rfl),(by rw[h24];rfl),(by rw[h25];rfl),h26,trivial⟩
       | false=>
        cases h27:(x.kind==8) with
        | true=>
         cases h28:(decide ((↑(x.outs.map eI).length:Int)>0)) with
         | true=>
          rw[show qab x=false from by grind[qab,abOk,dupO,inR]];exact qBz ⟨h1,h10,h20,c21,c22,(by rw[h23];rfl),(by rw[h24];rfl),(by rw[h25];rfl),h26,h27,h28,trivial⟩
         | false=>
          rcases qei x (by grind) with⟨hL,l⟩ | ⟨hL,l⟩
          ·skip
           rw[show qab x=false from by grind[qab,abOk,dupO,inR]];exact qBA ⟨h1,h10,h20,c21,c22,(by rw[h23];rfl),(by rw[h24];rfl),(by rw[h25];rfl),h26,h27,h28,l,trivial⟩
          ·skip
           rw[show qab x=true from by grind[qab,abOk,dupO,inR]];exact qBB ⟨h1,h10,h20,c21,c22,(by rw[h23];rfl),(by rw[h24];rfl),(by rw[h25];rfl),h26,h27,h28,l,trivial⟩
        | false=>
         rcases qei x (by grind) with⟨hL,l⟩ | ⟨hL,l⟩
         ·skip
          rw[show qab x=false from by grind[qab,abOk,dupO,inR]];exact qBC ⟨h1,h10,h20,c21,c22,(by rw[h23];rfl),(by rw[h24];rfl),(by rw[h25];rfl),h26,h27,l,trivial⟩
         ·skip
          rw[show qab x=true from by grind[qab,abOk,dupO,inR]];exact qBD ⟨h1,h10,h20,c21,c22,(by rw[h23];rfl),(by rw[h24];rfl),(by rw[h25];rfl),h26,h27,l,trivial⟩
      | false=>
       rw[show qab x=false from by grind[qab,abOk,dupO,inR]];exact qBx ⟨h1,h10,h20,c21,c22,(by rw[h23];rfl),(by rw[h24];rfl),(by rw[h25];rfl),trivial⟩
     | false=>
      rw[show qab x=false from by grind[qab,abOk,dupO,inR]];exact qBw ⟨h1,h10,h20,c21,c22,(by rw[h23];rfl),(by rw[h24];rfl),trivial⟩
    | false=>
     rw[show qab x=false from by grind[qab,abOk,dupO,inR]];exact qBv ⟨h1,h10,h20,c21,c22,(by rw[h23];rfl),trivial⟩
   | false=>
    have c29:=qbo x.kind 1 8;cases h30:(inR x.kind 1 8) with
    | true=>
     cases h31:(x.a==0) with
     | true=>
      cases h32:(x.b==0) with
      | true=>
       cases h33:(decide ((↑(x.outs.map eI).length:Int)>2)) with
       | true=>
        rw[show qab x=false from by grind[qab,abOk,dupO,inR]];exact qBH ⟨h1,h10,h20,c29,(by rw[h30];rfl),(by rw[h31];rfl),(by rw[h32];rfl),h33,trivial⟩
       | false=>
        cases h34:(x.kind==8) with
        | true=>
         cases h35:(decide ((↑(x.outs.map eI).length:Int)>0)) with
         | true=>
          rw[show qab x=false from by grind[qab,abOk,dupO,inR]];exact qBI ⟨h1,h10,h20,c29,(by rw[h30];rfl),(by rw[h31];rfl),(by rw[h32];rfl),h33,h34,h35,trivial⟩
         | false=>
          rcases qei x (by grind) with⟨hL,l⟩ | ⟨hL,l⟩
          ·skip
           rw[show qab x=false from by grind[qab,abOk,dupO,inR]];exact qBJ ⟨h1,h10,h20,c29,(by rw[h30];rfl),(by rw[h31];rfl),(by rw[h32];rfl),h33,h34,h35,l,trivial⟩
          ·skip
           rw[show qab x=true from by grind[qab,abOk,dupO,inR]];exact qBK ⟨h1,h10,h20,c29,(by rw[h30];rfl),(by rw[h31];rfl),(by rw[h32];rfl),h33,h34,h35,l,trivial⟩
        | false=>
         rcases qei x (by grind) with⟨hL,l⟩ | ⟨hL,l⟩
         ·skip
          rw[show qab x=false from by grind[qab,abOk,dupO,inR]];exact qBL ⟨h1,h10,h20,c29,(by rw[h30];rfl),(by rw[h31];rfl),(by rw[h32];rfl),h33,h34,l,trivial⟩
         ·skip
          rw[show qab x=true from by grind[qab,abOk,dupO,inR]];exact qBM ⟨h1,h10,h20,c29,(by rw[h30];rfl),(by rw[h31];rfl),(by rw[h32];rfl),h33,h34,l,trivial⟩
      | false=>
       rw[show qab x=false from by grind[qab,abOk,dupO,inR]];exact qBG ⟨h1,h10,h20,c29,(by rw[h30];rfl),(by rw[h31];rfl),(by rw[h32];rfl),trivial⟩
     | false=>
      rw[show qab x=false from by grind[qab,abOk,dupO,inR]];exact qBF ⟨h1,h10,h20,c29,(by rw[h30];rfl),(by rw[h31];rfl),trivial⟩
    | false=>
     rw[show qab x=false from by grind[qab,abOk,dupO,inR]];exact qBE ⟨h1,h10,h20,c29,(by rw[h30];rfl),trivial⟩
theorem qqT(x:Node)(hx:x.outs.length≤8388608):Rt 255 [.agg x.e] [.one (B (qab x))]:=by
 cases h1:(x.kind==2) with
 | true=>
  have c2:=qbN x.a 0 999;cases h3:(inR x.a 0 999) with
  | true=>
   cases h4:(x.b != 0) with
   | true=>
    rw[show qab x=false from by grind[qab,abOk,dupO,inR]];exact qBO ⟨h1,c2,(by rw[h3];rfl),h4,trivial⟩
   | false=>
    cases h5:(decide ((↑(x.outs.map eI).length:Int)>2)) with
    | true=>
     rw[show qab x=false from by grind[qab,abOk,dupO,inR]];exact qBP ⟨h1,c2,(by rw[h3];rfl),h4,h5,trivial⟩
    | false=>
     cases h6:(x.kind==8) with
     | true=>
      cases h7:(decide ((↑(x.outs.map eI).length:Int)>0)) with
      | true=>
       rw[show qab x=false from by grind[qab,abOk,dupO,inR]];exact qBQ ⟨h1,c2,(by rw[h3];rfl),h4,h5,h6,h7,trivial⟩
      | false=>
       cases h8:((↑(x.outs.map eI).length:Int)==2) with
       | true=>
        obtain⟨y9,hy9⟩:=qal (xs:=x.outs) (i:=0) (by grind[inR,inInt]);obtain⟨y10,hy10⟩:=qal (xs:=x.outs) (i:=1) (by grind[inR,inInt]);cases h11:(y9==y10) with
        | true=>
         rw[show qab x=false from by grind[qab,abOk,dupO,inR]];exact qBR ⟨h1,c2,(by rw[h3];rfl),h4,h5,h6,h7,h8,(by grind[inR,inInt]),(by grind[inR,inInt]),(qad eI hy9),(by grind[inR,inInt]),(by grind[inR,inInt]),(qad eI hy10),h11,trivial⟩
        | false=>
         rcases qa9 x hx with⟨hL,l⟩ | ⟨hL,l⟩
         ·skip
          rw[show qab x=false from by grind[qab,abOk,dupO,inR]];exact qBV ⟨h1,c2,(by rw[h3];rfl),h4,h5,h6,h7,h8,(by grind[inR,inInt]),(by grind[inR,inInt]),(qad eI hy9),(by grind[inR,inInt]),(by grind[inR,inInt]),(qad eI hy10),h11,l,trivial⟩
         ·skip
          rw[show qab x=true from by grind[qab,abOk,dupO,inR]];exact qBW ⟨h1,c2,(by rw[h3];rfl),h4,h5,h6,h7,h8,(by grind[inR,inInt]),(by grind[inR,inInt]),(qad eI hy9),(by grind[inR,inInt]),(by grind[inR,inInt]),(qad eI hy10),h11,l,trivial⟩
       | false=>
        rcases qa9 x hx with⟨hL,l⟩ | ⟨hL,l⟩
        ·skip
         rw[show qab x=false from by grind[qab,abOk,dupO,inR]];exact qBX ⟨h1,c2,(by rw[h3];rfl),h4,h5,h6,h7,h8,l,trivial⟩
        ·skip
         rw[show qab x=true from by grind[qab,abOk,dupO,inR]];exact qBY ⟨h1,c2,(by rw[h3];rfl),h4,h5,h6,h7,h8,l,trivial⟩
     | false=>
      cases h12:((↑(x.outs.map eI).length:Int)==2) with
      | true=>
       obtain⟨y13,hy13⟩:=qal (xs:=x.outs) (i:=0) (by grind[inR,inInt]);obtain⟨y14,hy14⟩:=qal (xs:=x.outs) (i:=1) (by grind[inR,inInt]);cases h15:(y13==y14) with
       | true=>
        rw[show qab x=false from by grind[qab,abOk,dupO,inR]];exact qBZ ⟨h1,c2,(by rw[h3];rfl),h4,h5,h6,h12,(by grind[inR,inInt]),(by grind[inR,inInt]),(qad eI hy13),(by grind[inR,inInt]),(by grind[inR,inInt]),(qad eI hy14),h15,trivial⟩
       | false=>
        rcases qa9 x hx with⟨hL,l⟩ | ⟨hL,l⟩
        ·skip
         rw[show qab x=false from by grind[qab,abOk,dupO,inR]];exact qB0 ⟨h1,c2,(by rw[h3];rfl),h4,h5,h6,h12,(by grind[inR,inInt]),(by grind[inR,inInt]),(qad eI hy13),(by grind[inR,inInt]),(by grind[inR,inInt]),(qad eI hy14),h15,l,trivial⟩
        ·skip
         rw[show qab x=true from by grind[qab,abOk,dupO,inR]];exact qB1 ⟨h1,c2,(by rw[h3];rfl),h4,h5,h6,h12,(by grind[inR,inInt]),(by grind[inR,inInt]),(qad eI hy13),(by grind[inR,inInt]),(by grind[inR,inInt]),(qad eI hy14),h15,l,trivial⟩
      | false=>
       rcases qa9 x hx with⟨hL,l⟩ | ⟨hL,l⟩
       ·skip
        rw[show qab x=false from by grind[qab,abOk,dupO,inR]];exact qB2 ⟨h1,c2,(by rw[h3];rfl),h4,h5,h6,h12,l,trivial⟩
       ·skip
        rw[show qab x=true from by grind[qab,abOk,dupO,inR]];exact qB3 ⟨h1,c2,(by rw[h3];rfl),h4,h5,h6,h12,l,trivial⟩
  | false=>
   rw[show qab x=false from by grind[qab,abOk,dupO,inR]];exact qBN ⟨h1,c2,(by rw[h3];rfl),trivial⟩
 | false=>
  cases h16:(x.kind==3) with
  | true=>
   have c17:=qbN x.a 1 10;cases h18:(inR x.a 1 10) with
   | true=>
    have c19:=qbN x.b 0 (IntKind.i64.wrap (x.a-1));cases h20:(inR x.b 0 (IntKind.i64.wrap (x.a-1))) with
    | true=>
     cases h21:(decide ((↑(x.outs.map eI).length:Int)>2)) with
     | true=>
      rw[show qab x=false from by grind[qab,abOk,dupO,inR]];exact qB6 ⟨h1,h16,c17,(by rw[h18];rfl),c19,(by rw[h20];rfl),h21,trivial⟩
     | false=>
      cases h22:(x.kind==8) with
      | true=>
       cases h23:(decide ((↑(x.outs.map eI).length:Int)>0)) with
       | true=>
        rw[show qab x=false from by grind[qab,abOk,dupO,inR]];exact qB7 ⟨h1,h16,c17,(by rw[h18];rfl),c19,(by rw[h20];rfl),h21,h22,h23,trivial⟩
       | false=>
        cases h24:((↑(x.outs.map eI).length:Int)==2) with
        | true=>
         obtain⟨y25,hy25⟩:=qal (xs:=x.outs) (i:=0) (by grind[inR,inInt]);obtain⟨y26,hy26⟩:=qal (xs:=x.outs) (i:=1) (by grind[inR,inInt]);cases h27:(y25==y26) with
         | true=>
          rw[show qab x=false from by grind[qab,abOk,dupO,inR]];exact qB8 ⟨h1,h16,c17,(by rw[h18];rfl),c19,(by rw[h20];rfl),h21,h22,h23,h24,(by grind[inR,inInt]),(by grind[inR,inInt]),(qad eI hy25),(by grind[inR,inInt]),(by grind[inR,inInt]),(qad eI hy26),h27,trivial⟩
         | false=>
          rcases qa9 x hx with⟨hL,l⟩ | ⟨hL,l⟩
          ·skip
           rw[show qab x=false from by grind[qab,abOk,dupO,inR]];exact qB9 ⟨h1,h16,c17,(by rw[h18];rfl),c19,(by rw[h20];rfl),h21,h22,h23,h24,(by grind[inR,inInt]),(by grind[inR,inInt]),(qad eI hy25),(by grind[inR,inInt]),(by grind[inR,inInt]),(qad eI hy26),h27,l,trivial⟩
          ·skip
           rw[show qab x=true from by grind[qab,abOk,dupO,inR]];exact qCa ⟨h1,h16,c17,(by rw[h18];rfl),c19,(by rw[h20];rfl),h21,h22,h23,h24,(by grind[inR,inInt]),(by grind[inR,inInt]),(qad eI hy25),(by grind[inR,inInt]),(by grind[inR,inInt]),(qad eI hy26),h27,l,trivial⟩
        | false=>
         rcases qa9 x hx with⟨hL,l⟩ | ⟨hL,l⟩
         ·skip
          rw[show qab x=false from by grind[qab,abOk,dupO,inR]];exact qCb ⟨h1,h16,c17,(by rw[h18];rfl),c19,(by rw[h20];rfl),h21,h22,h23,h24,l,trivial⟩
         ·skip
          rw[show qab x=true from by grind[qab,abOk,dupO,inR]];exact qCc ⟨h1,h16,c17,(by rw[h18];rfl),c19,(by rw[h20];rfl),h21,h22,h23,h24,l,trivial⟩
      | false=>
       cases h28:((↑(x.outs.map eI).length:Int)==2) with
       | true=>
        obtain⟨y29,hy29⟩:=qal (xs:=x.outs) (i:=0) (by grind[inR,inInt]);obtain⟨y30,hy30⟩:=qal (xs:=x.outs) (i:=1) (by grind[inR,inInt]);cases h31:(y29==y30) with
        | true=>
         rw[show qab x=false from by grind[qab,abOk,dupO,inR]];exact qCd ⟨h1,h16,c17,(by rw[h18];rfl),c19,(by rw[h20];rfl),h21,h22,h28,(by grind[inR,inInt]),(by grind[inR,inInt]),(qad eI hy29),(by grind[inR,inInt]),(by grind[inR,inInt]),(qad eI hy30),h31,trivial⟩
        | false=>
         rcases qa9 x hx with⟨hL,l⟩ | ⟨hL,l⟩
         ·skip
          rw[show qab x=false from by grind[qab,abOk,dupO,inR]];exact qCe ⟨h1,h16,c17,(by rw[h18];rfl),c19,(by rw[h20];rfl),h21,h22,h28,(by grind[inR,inInt]),(by grind[inR,inInt]),(qad eI hy29),(by grind[inR,inInt]),(by grind[inR,inInt]),(qad eI hy30),h31,l,trivial⟩
         ·skip
          rw[show qab x=true from by grind[qab,abOk,dupO,inR]];exact qCf ⟨h1,h16,c17,(by rw[h18];rfl),c19,(by rw[h20];rfl),h21,h22,h28,(by grind[inR,inInt]),(by grind[inR,inInt]),(qad eI hy29),(by grind[inR,inInt]),(by grind[inR,inInt]),(qad eI hy30),h31,l,trivial⟩
       | false=>
        rcases qa9 x hx with⟨hL,l⟩ | ⟨hL,l⟩
        ·skip
         rw[show qab x=false from by grind[qab,abOk,dupO,inR]];exact qCg ⟨h1,h16,c17,(by rw[h18];rfl),c19,(by rw[h20];rfl),h21,h22,h28,l,trivial⟩
        ·skip
         rw[show qab x=true from by grind[qab,abOk,dupO,inR]];exact qCh ⟨h1,h16,c17,(by rw[h18];rfl),c19,(by rw[h20];rfl),h21,h22,h28,l,trivial⟩
    | false=>
     rw[show qab x=false from by grind[qab,abOk,dupO,inR]];exact qB5 ⟨h1,h16,c17,(by rw[h18];rfl),c19,(by rw[h20];rfl),trivial⟩
   | false=>
    rw[show qab x=false from by grind[qab,abOk,dupO,inR]];exact qB4 ⟨h1,h16,c17,(by rw[h18];rfl),trivial⟩
  | false=>
   cases h32:(x.kind==4) with
   | true=>
    have c33:=qbN x.a 0 99;cases h34:(inR x.a 0 99) with
    | true=>
     cases h35:(x.b != 0) with
     | true=>
      rw[show qab x=false from by grind[qab,abOk,dupO,inR]];exact qCj ⟨h1,h16,h32,c33,(by rw[h34];rfl),h35,trivial⟩
     | false=>
      cases h36:(decide ((↑(x.outs.map eI).length:Int)>2)) with
      | true=>
       rw[show qab x=false from by grind[qab,abOk,dupO,inR]];exact qCk ⟨h1,h16,h32,c33,(by rw[h34];rfl),h35,h36,trivial⟩
      | false=>
       cases h37:(x.kind==8) with
       | true=>
        cases h38:(decide ((↑(x.outs.map eI).length:Int)>0)) with
        | true=>
         rw[show qab x=false from by grind[qab,abOk,dupO,inR]];exact qCl ⟨h1,h16,h32,c33,(by rw[h34];rfl),h35,h36,h37,h38,trivial⟩
        | false=>
         cases h39:((↑(x.outs.map eI).length:Int)==2) with
         | true=>
          obtain⟨y40,hy40⟩:=qal (xs:=x.outs) (i:=0) (by grind[inR,inInt]);obtain⟨y41,hy41⟩:=qal (xs:=x.outs) (i:=1) (by grind[inR,inInt]);cases h42:(y40==y41) with
          | true=>
           rw[show qab x=false from by grind[qab,abOk,dupO,inR]];exact qCm ⟨h1,h16,h32,c33,(by rw[h34];rfl),h35,h36,h37,h38,h39,(by grind[inR,inInt]),(by grind[inR,inInt]),(qad eI hy40),(by grind[inR,inInt]),(by grind[inR,inInt]),(qad eI hy41),h42,trivial⟩
          | false=>
           rcases qa9 x hx with⟨hL,l⟩ | ⟨hL,l⟩
           ·skip
            rw[show qab x=false from by grind[qab,abOk,dupO,inR]];exact qCn ⟨h1,h16,h32,c33,(by rw[h34];rfl),h35,h36,h37,h38,h39,(by grind[inR,inInt]),(by grind[inR,inInt]),(qad eI hy40),(by grind[inR,inInt]),(by grind[inR,inInt]),(qad eI hy41),h42,l,trivial⟩
           ·skip
            rw[show qab x=true from by grind[qab,abOk,dupO,inR]];exact qCo ⟨h1,h16,h32,c33,(by rw[h34];rfl),h35,h36,h37,h38,h39,(by grind[inR,inInt]),(by grind[inR,inInt]),(qad eI hy40),(by grind[inR,inInt]),(by grind[inR,inInt]),(qad eI hy41),h42,l,trivial⟩
         | false=>
          rcases qa9 x hx with⟨hL,l⟩ | ⟨hL,l⟩
          ·skip
           rw[show qab x=false from by grind[qab,abOk,dupO,inR]];exact qCp ⟨h1,h16,h32,c33,(by rw[h34];rfl),h35,h36,h37,h38,h39,l,trivial⟩
          ·skip
           rw[show qab x=true from by grind[qab,abOk,dupO,inR]];exact qCq ⟨h1,h16,h32,c33,(by rw[h34];rfl),h35,h36,h37,h38,h39,l,trivial⟩
       | false=>
        cases h43:((↑(x.outs.map eI).length:Int)==2) with
        | true=>
         obtain⟨y44,hy44⟩:=qal (xs:=x.outs) (i:=0) (by grind[inR,inInt]);obtain⟨y45,hy45⟩:=qal (xs:=x.outs) (i:=1) (by grind[inR,inInt]);cases h46:(y44==y45) with
         | true=>
          rw[show qab x=false from by grind[qab,abOk,dupO,inR]];exact qCr ⟨h1,h16,h32,c33,(by rw[h34];rfl),h35,h36,h37,h43,(by grind[inR,inInt]),(by grind[inR,inInt]),(qad eI hy44),(by grind[inR,inInt]),(by grind[inR,inInt]),(qad eI hy45),h46,trivial⟩
         | false=>
          rcases qa9 x hx with⟨hL,l⟩ | ⟨hL,l⟩
          ·skip
           rw[show qab x=false from by grind[qab,abOk,dupO,inR]];exact qCs ⟨h1,h16,h32,c33,(by rw[h34];rfl),h35,h36,h37,h43,(by grind[inR,inInt]),(by grind[inR,inInt]),(qad eI hy44),(by grind[inR,inInt]),(by grind[inR,inInt]),(qad eI hy45),h46,l,trivial⟩
          ·skip
           rw[show qab x=true from by grind[qab,abOk,dupO,inR]];exact qCt ⟨h1,h16,h32,c33,(by rw[h34];rfl),h35,h36,h37,h43,(by grind[inR,inInt]),(by grind[inR,inInt]),(qad eI hy44),(by grind[inR,inInt]),(by grind[inR,inInt]),(qad eI hy45),h46,l,trivial⟩
        | false=>
         rcases qa9 x hx with⟨hL,l⟩ | ⟨hL,l⟩
         ·skip
          rw[show qab x=false from by grind[qab,abOk,dupO,inR]];exact qCu ⟨h1,h16,h32,c33,(by rw[h34];rfl),h35,h36,h37,h43,l,trivial⟩
         ·skip
          rw[show qab x=true from by grind[qab,abOk,dupO,inR]];exact qCv ⟨h1,h16,h32,c33,(by rw[h34];rfl),h35,h36,h37,h43,l,trivial⟩
    | false=>
     rw[show qab x=false from by grind[qab,abOk,dupO,inR]];exact qCi ⟨h1,h16,h32,c33,(by rw[h34];rfl),trivial⟩
   | false=>
    cases h47:(x.kind==1) with
    | true=>
     cases h48:(x.a != 0) with
     | true=>
      rw[show qab x=false from by grind[qab,abOk,dupO,inR]];exact qCw ⟨h1,h16,h32,h47,h47,h48,trivial⟩
     | false=>
      cases h49:(x.b != 0) with
      | true=>
       rw[show qab x=false from by grind[qab,abOk,dupO,inR]];exact qCx ⟨h1,h16,h32,h47,h47,h48,h49,trivial⟩
      | false=>
       cases h50:(decide ((↑(x.outs.map eI).length:Int)>2)) with
       | true=>
        rw[show qab x=false from by grind[qab,abOk,dupO,inR]];exact qCy ⟨h1,h16,h32,h47,h47,h48,h49,h50,trivial⟩
       | false=>
        cases h51:(x.kind==8) with
        | true=>
         cases h52:(decide ((↑(x.outs.map eI).length:Int)>0)) with
         | true=>
          rw[show qab x=false from by grind[qab,abOk,dupO,inR]];exact qCz ⟨h1,h16,h32,h47,h47,h48,h49,h50,h51,h52,trivial⟩
         | false=>
          cases h53:((↑(x.outs.map eI).length:Int)==2) with
          | true=>
           obtain⟨y54,hy54⟩:=qal (xs:=x.outs) (i:=0) (by grind[inR,inInt]);obtain⟨y55,hy55⟩:=qal (xs:=x.outs) (i:=1) (by grind[inR,inInt]);cases h56:(y54==y55) with
           | true=>
            rw[show qab x=false from by grind[qab,abOk,dupO,inR]];exact qCA ⟨h1,h16,h32,h47,h47,h48,h49,h50,h51,h52,h53,(by grind[inR,inInt]),(by grind[inR,inInt]),(qad eI hy54),(by grind[inR,inInt]),(by grind[inR,inInt]),(qad eI hy55),h56,trivial⟩
           | false=>
            rcases qa9 x hx with⟨hL,l⟩ | ⟨hL,l⟩
            ·skip
             rw[show qab x=false from by grind[qab,abOk,dupO,inR]];exact qCB ⟨h1,h16,h32,h47,h47,h48,h49,h50,h51,h52,h53,(by grind[inR,inInt]),(by grind[inR,inInt]),(qad eI hy54),(by grind[inR,inInt]),(by grind[inR,inInt]),(qad eI hy55),h56,l,trivial⟩
            ·skip
             rw[show qab x=true from by grind[qab,abOk,dupO,inR]];exact qCC ⟨h1,h16,h32,h47,h47,h48,h49,h50,h51,h52,h53,(by grind[inR,inInt]),(by grind[inR,inInt]),(qad eI hy54),(by grind[inR,inInt]),(by grind[inR,inInt]),(qad eI hy55),h56,l,trivial⟩
          | false=>
           rcases qa9 x hx with⟨hL,l⟩ | ⟨hL,l⟩
           ·skip
            rw[show qab x=false from by grind[qab,abOk,dupO,inR]];exact qCD ⟨h1,h16,h32,h47,h47,h48,h49,h50,h51,h52,h53,l,trivial⟩
           ·skip
            rw[show qab x=true from by grind[qab,abOk,dupO,inR]];exact qCE ⟨h1,h16,h32,h47,h47,h48,h49,h50,h51,h52,h53,l,trivial⟩
        | false=>
         cases h57:((↑(x.outs.map eI).length:Int)==2) with
         | true=>
          obtain⟨y58,hy58⟩:=qal (xs:=x.outs) (i:=0) (by grind[inR,inInt]);obtain⟨y59,hy59⟩:=qal (xs:=x.outs) (i:=1) (by grind[inR,inInt]);cases h60:(y58==y59) with
          | true=>
           rw[show qab x=false from by grind[qab,abOk,dupO,inR]];exact qCF ⟨h1,h16,h32,h47,h47,h48,h49,h50,h51,h57,(by grind[inR,inInt]),(by grind[inR,inInt]),(qad eI hy58),(by grind[inR,inInt]),(by grind[inR,inInt]),(qad eI hy59),h60,trivial⟩
          | false=>
           rcases qa9 x hx with⟨hL,l⟩ | ⟨hL,l⟩
           ·skip
            rw[show qab x=false from by grind[qab,abOk,dupO,inR]];exact qCG ⟨h1,h16,h32,h47,h47,h48,h49,h50,h51,h57,(by grind[inR,inInt]),(by grind[inR,inInt]),(qad eI hy58),(by grind[inR,inInt]),(by grind[inR,inInt]),(qad eI hy59),h60,l,trivial⟩
           ·skip
            rw[show qab x=true from by grind[qab,abOk,dupO,inR]];exact qCH ⟨h1,h16,h32,h47,h47,h48,h49,h50,h51,h57,(by grind[inR,inInt]),(by grind[inR,inInt]),(qad eI hy58),(by grind[inR,inInt]),(by grind[inR,inInt]),(qad eI hy59),h60,l,trivial⟩
         | false=>
          rcases qa9 x hx with⟨hL,l⟩ | ⟨hL,l⟩
          ·skip
           rw[show qab x=false from by grind[qab,abOk,dupO,inR]];exact qCI ⟨h1,h16,h32,h47,h47,h48,h49,h50,h51,h57,l,trivial⟩
          ·skip
           rw[show qab x=true from by grind[qab,abOk,dupO,inR]];exact qCJ ⟨h1,h16,h32,h47,h47,h48,h49,h50,h51,h57,l,trivial⟩
    | false=>
     cases h61:(x.kind==5) with
     | true=>
      cases h62:(x.a != 0) with
      | true=>
       rw[show qab x=false from by grind[qab,abOk,dupO,inR]];exact qCK ⟨h1,h16,h32,h47,h61,h61,h62,trivial⟩
      | false=>
       cases h63:(x.b != 0) with
       | true=>
        rw[show qab x=false from by grind[qab,abOk,dupO,inR]];exact qCL ⟨h1,h16,h32,h47,h61,h61,h62,h63,trivial⟩
       | false=>
        cases h64:(decide ((↑(x.outs.map eI).length:Int)>2)) with
        | true=>
         rw[show qab x=false from by grind[qab,abOk,dupO,inR]];exact qCM ⟨h1,h16,h32,h47,h61,h61,h62,h63,h64,trivial⟩
        | false=>
         cases h65:(x.kind==8) with
         | true=>
          cases h66:(decide ((↑(x.outs.map eI).length:Int)>0)) with
          | true=>
           rw[show qab x=false from by grind[qab,abOk,dupO,inR]];exact qCN ⟨h1,h16,h32,h47,h61,h61,h62,h63,h64,h65,h66,trivial⟩
          | false=>
           cases h67:((↑(x.outs.map eI).length:Int)==2) with
           | true=>
            obtain⟨y68,hy68⟩:=qal (xs:=x.outs) (i:=0) (by grind[inR,inInt]);obtain⟨y69,hy69⟩:=qal (xs:=x.outs) (i:=1) (by grind[inR,inInt]);cases h70:(y68==y69) with
            | true=>
             rw[show qab x=false from by grind[qab,abOk,dupO,inR]];exact qCO ⟨h1,h16,h32,h47,h61,h61,h62,h63,h64,h65,h66,h67,(by grind[inR,inInt]),(by grind[inR,inInt]),(qad eI hy68),(by grind[inR,inInt]),(by grind[inR,inInt]),(qad eI hy69),h70,trivial⟩
            | false=>
             rcases qa9 x hx with⟨hL,l⟩ | ⟨hL,l⟩
             ·skip
              rw[show qab x=false from by grind[qab,abOk,dupO,inR]];exact qCP ⟨h1,h16,h32,h47,h61,h61,h62,h63,h64,h65,h66,h67,(by grind[inR,inInt]),(by grind[inR,inInt]),(qad eI hy68),(by grind[inR,inInt]),(by grind[inR,inInt]),(qad eI hy69),h70,l,trivial⟩
             ·skip
              rw[show qab x=true from by grind[qab,abOk,dupO,inR]];exact qCQ ⟨h1,h16,h32,h47,h61,h61,h62,h63,h64,h65,h66,h67,(by grind[inR,inInt]),(by grind[inR,inInt]),(qad eI hy68),(by grind[inR,inInt]),(by grind[inR,inInt]),(qad eI hy69),h70,l,trivial⟩
           | false=>
            rcases qa9 x hx with⟨hL,l⟩ | ⟨hL,l⟩
            ·skip
             rw[show qab x=false from by grind[qab,abOk,dupO,inR]];exact qCR ⟨h1,h16,h32,h47,h61,h61,h62,h63,h64,h65,h66,h67,l,trivial⟩
            ·skip
             rw[show qab x=true from by grind[qab,abOk,dupO,inR]];exact qCS ⟨h1,h16,h32,h47,h61,h61,h62,h63,h64,h65,h66,h67,l,trivial⟩
         | false=>
          cases h71:((↑(x.outs.map eI).length:Int)==2) with
          | true=>
           obtain⟨y72,hy72⟩:=qal (xs:=x.outs) (i:=0) (by grind[inR,inInt]);obtain⟨y73,hy73⟩:=qal (xs:=x.outs) (i:=1) (by grind[inR,inInt]);cases h74:(y72==y73) with
           | true=>
            rw[show qab x=false from by grind[qab,abOk,dupO,inR]];exact qCT ⟨h1,h16,h32,h47,h61,h61,h62,h63,h64,h65,h71,(by grind[inR,inInt]),(by grind[inR,inInt]),(qad eI hy72),(by grind[inR,inInt]),(by grind[inR,inInt]),(qad eI hy73),h74,trivial⟩
           | false=>
            rcases qa9 x hx with⟨hL,l⟩ | ⟨hL,l⟩
            ·skip
             rw[show qab x=false from by grind[qab,abOk,dupO,inR]];exact qCU ⟨h1,h16,h32,h47,h61,h61,h62,h63,h64,h65,h71,(by grind[inR,inInt]),(by grind[inR,inInt]),(qad eI hy72),(by grind[inR,inInt]),(by grind[inR,inInt]),(qad eI hy73),h74,l,trivial⟩
            ·skip
             rw[show qab x=true from by grind[qab,abOk,dupO,inR]];exact qCV ⟨h1,h16,h32,h47,h61,h61,h62,h63,h64,h65,h71,(by grind[inR,inInt]),(by grind[inR,inInt]),(qad eI hy72),(by grind[inR,inInt]),(by grind[inR,inInt]),(qad eI hy73),h74,l,trivial⟩
          | false=>
           rcases qa9 x hx with⟨hL,l⟩ | ⟨hL,l⟩
           ·skip
            rw[show qab x=false from by grind[qab,abOk,dupO,inR]];exact qCW ⟨h1,h16,h32,h47,h61,h61,h62,h63,h64,h65,h71,l,trivial⟩
           ·skip
            rw[show qab x=true from by grind[qab,abOk,dupO,inR]];exact qCX ⟨h1,h16,h32,h47,h61,h61,h62,h63,h64,h65,h71,l,trivial⟩
     | false=>
      cases h75:(x.kind==6) with
      | true=>
       cases h76:(x.a != 0) with
       | true=>
        rw[show qab x=false from by grind[qab,abOk,dupO,inR]];exact qCY ⟨h1,h16,h32,h47,h61,h75,h75,h76,trivial⟩
       | false=>
        cases h77:(x.b != 0) with
        | true=>
         rw[show qab x=false from by grind[qab,abOk,dupO,inR]];exact qCZ ⟨h1,h16,h32,h47,h61,h75,h75,h76,h77,trivial⟩
        | false=>
         cases h78:(decide ((↑(x.outs.map eI).length:Int)>2)) with
         | true=>
          rw[show qab x=false from by grind[qab,abOk,dupO,inR]];exact qC0 ⟨h1,h16,h32,h47,h61,h75,h75,h76,h77,h78,trivial⟩
         | false=>
          cases h79:(x.kind==8) with
          | true=>
           cases h80:(decide ((↑(x.outs.map eI).length:Int)>0)) with
           | true=>
            rw[show qab x=false from by grind[qab,abOk,dupO,inR]];exact qC1 ⟨h1,h16,h32,h47,h61,h75,h75,h76,h77,h78,h79,h80,trivial⟩
           | false=>
            cases h81:((↑(x.outs.map eI).length:Int)==2) with
            | true=>
             obtain⟨y82,hy82⟩:=qal (xs:=x.outs) (i:=0) (by grind[inR,inInt]);obtain⟨y83,hy83⟩:=qal (xs:=x.outs) (i:=1) (by grind[inR,inInt]);cases h84:(y82==y83) with
             | true=>
              rw[show qab x=false from by grind[qab,abOk,dupO,inR]];exact qC2 ⟨h1,h16,h32,h47,h61,h75,h75,h76,h77,h78,h79,h80,h81,(by grind[inR,inInt]),(by grind[inR,inInt]),(qad eI hy82),(by grind[inR,inInt]),(by grind[inR,inInt]),(qad eI hy83),h84,trivial⟩
             | false=>
              rcases qa9 x hx with⟨hL,l⟩ | ⟨hL,l⟩
              ·skip
               rw[show qab x=false from by grind[qab,abOk,dupO,inR]];exact qC3 ⟨h1,h16,h32,h47,h61,h75,h75,h76,h77,h78,h79,h80,h81,(by grind[inR,inInt]),(by grind[inR,inInt]),(qad eI hy82),(by grind[inR,inInt]),(by grind[inR,inInt]),(qad eI hy83),h84,l,trivial⟩
              ·skip
               rw[show qab x=true from by grind[qab,abOk,dupO,inR]];exact qC4 ⟨h1,h16,h32,h47,h61,h75,h75,h76,h77,h78,h79,h80,h81,(by grind[inR,inInt]),(by grind[inR,inInt]),(qad eI hy82),(by grind[inR,inInt]),(by grind[inR,inInt]),(qad eI hy83),h84,l,trivial⟩
            | false=>
             rcases qa9 x hx with⟨hL,l⟩ | ⟨hL,l⟩
             ·skip
              rw[show qab x=false from by grind[qab,abOk,dupO,inR]];exact qC5 ⟨h1,h16,h32,h47,h61,h75,h75,h76,h77,h78,h79,h80,h81,l,trivial⟩
             ·skip
              rw[show qab x=true from by grind[qab,abOk,dupO,inR]];exact qC6 ⟨h1,h16,h32,h47,h61,h75,h75,h76,h77,h78,h79,h80,h81,l,trivial⟩
          | false=>
           cases h85:((↑(x.outs.map eI).length:Int)==2) with
           | true=>
            obtain⟨y86,hy86⟩:=qal (xs:=x.outs) (i:=0) (by grind[inR,inInt]);obtain⟨y87,hy87⟩:=qal (xs:=x.outs) (i:=1) (by grind[inR,inInt]);cases h88:(y86==y87) with
            | true=>
             rw[show qab x=false from by grind[qab,abOk,dupO,inR]];exact qC7 ⟨h1,h16,h32,h47,h61,h75,h75,h76,h77,h78,h79,h85,(by grind[inR,inInt]),(by grind[inR,inInt]),(qad eI hy86),(by grind[inR,inInt]),(by grind[inR,inInt]),(qad eI hy87),h88,trivial⟩
            | false=>
             rcases qa9 x hx with⟨hL,l⟩ | ⟨hL,l⟩
             ·skip
              rw[show qab x=false from by grind[qab,abOk,dupO,inR]];exact qC8 ⟨h1,h16,h32,h47,h61,h75,h75,h76,h77,h78,h79,h85,(by grind[inR,inInt]),(by grind[inR,inInt]),(qad eI hy86),(by grind[inR,inInt]),(by grind[inR,inInt]),(qad eI hy87),h88,l,trivial⟩
             ·skip
              rw[show qab x=true from by grind[qab,abOk,dupO,inR]];exact qC9 ⟨h1,h16,h32,h47,h61,h75,h75,h76,h77,h78,h79,h85,(by grind[inR,inInt]),(by grind[inR,inInt]),(qad eI hy86),(by grind[inR,inInt]),(by grind[inR,inInt]),(qad eI hy87),h88,l,trivial⟩
           | false=>
            rcases qa9 x hx with⟨hL,l⟩ | ⟨hL,l⟩
            ·skip
             rw[show qab x=false from by grind[qab,abOk,dupO,inR]];exact qDa ⟨h1,h16,h32,h47,h61,h75,h75,h76,h77,h78,h79,h85,l,trivial⟩
            ·skip
             rw[show qab x=true from by grind[qab,abOk,dupO,inR]];exact qDb ⟨h1,h16,h32,h47,h61,h75,h75,h76,h77,h78,h79,h85,l,trivial⟩
      | false=>
       cases h89:(x.kind==7) with
       | true=>
        cases h90:(x.a != 0) with
        | true=>
         rw[show qab x=false from by grind[qab,abOk,dupO,inR]];exact qDc ⟨h1,h16,h32,h47,h61,h75,h89,h89,h90,trivial⟩
        | false=>
         cases h91:(x.b != 0) with
         | true=>
          rw[show qab x=false from by grind[qab,abOk,dupO,inR]];exact qDd ⟨h1,h16,h32,h47,h61,h75,h89,h89,h90,h91,trivial⟩
         | false=>
          cases h92:(decide ((↑(x.outs.map eI).length:Int)>2)) with
          | true=>
           rw[show qab x=false from by grind[qab,abOk,dupO,inR]];exact qDe ⟨h1,h16,h32,h47,h61,h75,h89,h89,h90,h91,h92,trivial⟩
          | false=>
           cases h93:(x.kind==8) with
           | true=>
            cases h94:(decide ((↑(x.outs.map eI).length:Int)>0)) with
            | true=>
             rw[show qab x=false from by grind[qab,abOk,dupO,inR]];exact qDf ⟨h1,h16,h32,h47,h61,h75,h89,h89,h90,h91,h92,h93,h94,trivial⟩
            | false=>
             cases h95:((↑(x.outs.map eI).length:Int)==2) with
             | true=>
              obtain⟨y96,hy96⟩:=qal (xs:=x.outs) (i:=0) (by grind[inR,inInt]);obtain⟨y97,hy97⟩:=qal (xs:=x.outs) (i:=1) (by grind[inR,inInt]);cases h98:(y96==y97) with
              | true=>
               rw[show qab x=false from by grind[qab,abOk,dupO,inR]];exact qDg ⟨h1,h16,h32,h47,h61,h75,h89,h89,h90,h91,h92,h93,h94,h95,(by grind[inR,inInt]),(by grind[inR,inInt]),(qad eI hy96),(by grind[inR,inInt]),(by grind[inR,inInt]),(qad eI hy97),h98,trivial⟩
              | false=>
               rcases qa9 x hx with⟨hL,l⟩ | ⟨hL,l⟩
               ·skip
                rw[show qab x=false from by grind[qab,abOk,dupO,inR]];exact qDh ⟨h1,h16,h32,h47,h61,h75,h89,h89,h90,h91,h92,h93,h94,h95,(by grind[inR,inInt]),(by grind[inR,inInt]),(qad eI hy96),(by grind[inR,inInt]),(by grind[inR,inInt]),(qad eI hy97),h98,l,trivial⟩
               ·skip
                rw[show qab x=true from by grind[qab,abOk,dupO,inR]];exact qDi ⟨h1,h16,h32,h47,h61,h75,h89,h89,h90,h91,h92,h93,h94,h95,(by grind[inR,inInt]),(by grind[inR,inInt]),(qad eI hy96),(by grind[inR,inInt]),(by grind[inR,inInt]),(qad eI hy97),h98,l,trivial⟩
             | false=>
              rcases qa9 x hx with⟨hL,l⟩ | ⟨hL,l⟩
              ·skip
               rw[show qab x=false from by grind[qab,abOk,dupO,inR]];exact qDj ⟨h1,h16,h32,h47,h61,h75,h89,h89,h90,h91,h92,h93,h94,h95,l,trivial⟩
              ·skip
               rw[show qab x=true from by grind[qab,abOk,dupO,inR]];exact qDk ⟨h1,h16,h32,h47,h61,h75,h89,h89,h90,h91,h92,h93,h94,h95,l,trivial⟩
           | false=>
            cases h99:((↑(x.outs.map eI).length:Int)==2) with
            | true=>
             obtain⟨y100,hy100⟩:=qal (xs:=x.outs) (i:=0) (by grind[inR,inInt]);obtain⟨y101,hy101⟩:=qal (xs:=x.outs) (i:=1) (by grind[inR,inInt]);cases h102:(y100==y101) with
             | true=>
              rw[show qab x=false from by grind[qab,abOk,dupO,inR]];exact qDl ⟨h1,h16,h32,h47,h61,h75,h89,h89,h90,h91,h92,h93,h99,(by grind[inR,inInt]),(by grind[inR,inInt]),(qad eI hy100),(by grind[inR,inInt]),(by grind[inR,inInt]),(qad eI hy101),h102,trivial⟩
             | false=>
              rcases qa9 x hx with⟨hL,l⟩ | ⟨hL,l⟩
              ·skip
               rw[show qab x=false from by grind[qab,abOk,dupO,inR]];exact qDm ⟨h1,h16,h32,h47,h61,h75,h89,h89,h90,h91,h92,h93,h99,(by grind[inR,inInt]),(by grind[inR,inInt]),(qad eI hy100),(by grind[inR,inInt]),(by grind[inR,inInt]),(qad eI hy101),h102,l,trivial⟩
              ·skip
               rw[show qab x=true from by grind[qab,abOk,dupO,inR]];exact qDn ⟨h1,h16,h32,h47,h61,h75,h89,h89,h90,h91,h92,h93,h99,(by grind[inR,inInt]),(by grind[inR,inInt]),(qad eI hy100),(by grind[inR,inInt]),(by grind[inR,inInt]),(qad eI hy101),h102,l,trivial⟩
            | false=>
             rcases qa9 x hx with⟨hL,l⟩ | ⟨hL,l⟩
             ·skip
              rw[show qab x=false from by grind[qab,abOk,dupO,inR]];exact qDo ⟨h1,h16,h32,h47,h61,h75,h89,h89,h90,h91,h92,h93,h99,l,trivial⟩
             ·skip
              rw[show qab x=true from by grind[qab,abOk,dupO,inR]];exact qDp ⟨h1,h16,h32,h47,h61,h75,h89,h89,h90,h91,h92,h93,h99,l,trivial⟩
       | false=>
        cases h103:(x.kind==8) with
        | true=>
         cases h104:(x.a != 0) with
         | true=>
          rw[show qab x=false from by grind[qab,abOk,dupO,inR]];exact qDq ⟨h1,h16,h32,h47,h61,h75,h89,h103,h104,trivial⟩
         | false=>
          cases h105:(x.b != 0) with
          | true=>
           rw[show qab x=false from by grind[qab,abOk,dupO,inR]];exact qDr ⟨h1,h16,h32,h47,h61,h75,h89,h103,h104,h105,trivial⟩
          | false=>
           cases h106:(decide ((↑(x.outs.map eI).length:Int)>2)) with
           | true=>
            rw[show qab x=false from by grind[qab,abOk,dupO,inR]];exact qDs ⟨h1,h16,h32,h47,h61,h75,h89,h103,h104,h105,h106,trivial⟩
           | false=>
            cases h107:(decide ((↑(x.outs.map eI).length:Int)>0)) with
            | true=>
             rw[show qab x=false from by grind[qab,abOk,dupO,inR]];exact qDt ⟨h1,h16,h32,h47,h61,h75,h89,h103,h104,h105,h106,h103,h107,trivial⟩
            | false=>
             cases h108:((↑(x.outs.map eI).length:Int)==2) with
             | true=>
              obtain⟨y109,hy109⟩:=qal (xs:=x.outs) (i:=0) (by grind[inR,inInt]);obtain⟨y110,hy110⟩:=qal (xs:=x.outs) (i:=1) (by grind[inR,inInt]);cases h111:(y109==y110) with
              | true=>
               rw[show qab x=false from by grind[qab,abOk,dupO,inR]];exact qDu ⟨h1,h16,h32,h47,h61,h75,h89,h103,h104,h105,h106,h103,h107,h108,(by grind[inR,inInt]),(by grind[inR,inInt]),(qad eI hy109),(by grind[inR,inInt]),(by grind[inR,inInt]),(qad eI hy110),h111,trivial⟩
              | false=>
               rcases qa9 x hx with⟨hL,l⟩ | ⟨hL,l⟩
               ·skip
                rw[show qab x=false from by grind[qab,abOk,dupO,inR]];exact qDv ⟨h1,h16,h32,h47,h61,h75,h89,h103,h104,h105,h106,h103,h107,h108,(by grind[inR,inInt]),(by grind[inR,inInt]),(qad eI hy109),(by grind[inR,inInt]),(by grind[inR,inInt]),(qad eI hy110),h111,l,trivial⟩
               ·skip
                rw[show qab x=true from by grind[qab,abOk,dupO,inR]];exact qDw ⟨h1,h16,h32,h47,h61,h75,h89,h103,h104,h105,h106,h103,h107,h108,(by grind[inR,inInt]),(by grind[inR,inInt]),(qad eI hy109),(by grind[inR,inInt]),(by grind[inR,inInt]),(qad eI hy110),h111,l,trivial⟩
             | false=>
              rcases qa9 x hx with⟨hL,l⟩ | ⟨hL,l⟩
              ·skip
               rw[show qab x=false from by grind[qab,abOk,dupO,inR]];exact qDx ⟨h1,h16,h32,h47,h61,h75,h89,h103,h104,h105,h106,h103,h107,h108,l,trivial⟩
              ·skip
               rw[show qab x=true from by grind[qab,abOk,dupO,inR]];exact qDy ⟨h1,h16,h32,h47,h61,h75,h89,h103,h104,h105,h106,h103,h107,h108,l,trivial⟩
        | false=>
         rw[show qab x=false from by grind[qab,abOk,dupO,inR]];exact qDz ⟨h1,h16,h32,h47,h61,h75,h89,h103,trivial⟩
