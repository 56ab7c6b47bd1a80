import Derived.Test.YtdchjefneblpgaaGreatQ2
import Derived.Test.YtdchjefneblpgaaGreatGQ
import Derived.Test.YtdchjefneblpgaaGreatGR
set_option linter.unusedVariables false
set_option linter.unusedSimpArgs false
namespace Go.Proofs.YtdchjefneblpgaaGreat
open Go.Sx Go.RowKit Go.Proofs.Tryz
def gU(s:gd):Bool:=aq s.bc 0 3&&aq s.dT 0 6
def eY(k v:Int):Bool:=aq k 0 99&&aq v 0 999
def eR(r:aB):Bool:=aq r.op 0 7&&gU r.bp&&eY r.key r.val
def eI(s:gd):gd×Bool:=if gU s&&decide (s.dT<6) then (⟨s.bc,s.dT+1⟩,true) else (s,false)
def less(a b:Int):Int:=if b<a then b else a
def bI(x:Node):Bool:=
 if x.kind=2 then aq x.a 0 999&&x.b==0
 else if x.kind=3 then aq x.a 1 10&&aq x.b 0 (IntKind.i64.wrap (x.a-1))
 else if x.kind=4 then aq x.a 0 99&&x.b==0
 else aq x.kind 1 8&&x.a==0&&x.b==0
def l9(l:List Int):Bool:=!(l.any fun k=>!aq k 0 7)
def bP(l:List Int):Bool:=decide (l.length=2/\l[0]?=l[1]?)
def aN(x:Node):Bool:=bI x&&decide (x.outs.length<=2)&&!(x.kind==8&&decide (0<x.outs.length))&&!bP x.outs&&l9 x.outs
theorem look{α:Type}{xs:List α}{i:Int}(b5:0<=i)(h1:i<xs.length):∃a,xs[i.toNat]?=some a:=cS (by omega)
theorem bC{α:Type}{xs:List α}{i:Nat}{a:α}(f:α->List D)(h:xs[i]?=some a):(xs.map f)[i]?=some (f a):=by simp[h]
theorem gz(x:Node)(ak:x.outs.length<=8388608):(l9 x.outs=false/\cW prog (ao f273 0) (di (x.outs.map a6) 0) .ret (fM false))\/(l9 x.outs=true/\cW prog (ao f273 0) (di (x.outs.map a6) 0) (.exit 1) fW):=by
 have l:=gy (P:=prog) (c:=(ao f273 0)) x.outs (fun k=>!aq k 0 7) (fun i=>di (x.outs.map a6) i) (X:=fun _ _=>fM false) e7 (cH 1)
  (fun i a ag h=>aqZ ⟨b6 (a1 ag),bw,bE (a1 ag),bA a6 ag,jV a 0 7,h,dc (a1 ag) ak,aa⟩)
  (fun i a ag h=>aqY ⟨b6 (a1 ag),bw,bE (a1 ag),bA a6 ag,jV a 0 7,h,aa⟩)
  (aq0 ⟨dz,aa⟩)
 unfold l9;rcases l with⟨_,_,h1,U⟩ | ⟨i,a,_,_,_,_,h1,U⟩
 ·exact .inr ⟨by rw[h1];rfl,U⟩
 exact .inl ⟨by rw[h1];rfl,U⟩
theorem tg(x:Node)(ak:x.outs.length<=2):((l9 x.outs&&!bP x.outs)=false/\cW prog (ao f243 0) (hb x.kind x.a x.b (x.outs.map a6) 0) .ret (pA false))\/((l9 x.outs&&!bP x.outs)=true/\cW prog (ao f243 0) (hb x.kind x.a x.b (x.outs.map a6) 0) (.exit 1) qj):=by
 obtain⟨NK,a,b,outs⟩:=x;have cl:=fun k=>hI k 0 7
 match outs,ak with
 | [],_=>exact .inr ⟨rfl,.last (cH 1) (J' ⟨rfl,aa⟩)⟩
 | [k],_=>
  cases h1:aq k 0 7 with
  | false=>exact .inl ⟨by simp[l9,h1],.last e7 (J9 ⟨rfl,by omega,by simp,rfl,cl k,by rw[h1];rfl,aa⟩)⟩
  | true=>
   refine .inr ⟨by simp[l9,bP,h1],.more (Qx ⟨rfl,by omega,by simp,rfl,cl k,by rw[h1];rfl,rfl,⟨by omega,by omega⟩,aa⟩) (.last (cH 1) (J' ⟨rfl,aa⟩))⟩
 | [k,m],_=>
  cases h1:aq k 0 7 with
  | false=>exact .inl ⟨by simp[l9,h1],.last e7 (J9 ⟨rfl,by omega,by simp,rfl,cl k,by rw[h1];rfl,aa⟩)⟩
  | true=>
   have first:gf prog (ao f243 0) (hb NK a b ([k,m].map a6) 0) .normal (hb NK a b ([k,m].map a6) (0+1)):=Qx ⟨rfl,by omega,by simp,rfl,cl k,by rw[h1];rfl,rfl,⟨by omega,by omega⟩,aa⟩
   cases U:aq m 0 7 with
   | false=>exact .inl ⟨by simp[l9,h1,U],.more first (.last e7 (J9 ⟨rfl,by omega,by simp,rfl,cl m,by rw[U];rfl,aa⟩))⟩
   | true=>
    cases ax:(k==m) with
    | true=>exact .inl ⟨by simp[l9,bP,h1,U]at ax ⊢;exact ax,.more first (.last e7 (apw ⟨rfl,by omega,by simp,rfl,cl m,by rw[U];rfl,rfl,by omega,by simp,rfl,by omega,by simp,rfl,ax,aa⟩))⟩
    | false=>exact .inr ⟨by simp[l9,bP,h1,U]at ax ⊢;exact ax,.more first (.more (apx ⟨rfl,by omega,by simp,rfl,cl m,by rw[U];rfl,rfl,by omega,by simp,rfl,by omega,by simp,rfl,ax,⟨by omega,by omega⟩,aa⟩) (.last (cH 1) (J' ⟨rfl,aa⟩)))⟩
theorem Qy(s:gd):ar 244 [.agg s.e] [.one (B (gU s))]:=by
 have c1:=hI s.bc 0 3;cases U:(aq s.bc 0 3) with
 | true=>
  have cu:=hI s.dT 0 6;rw[show gU s=aq s.dT 0 6 from by grind[gU]];exact apQ ⟨c1,U,cu,aa⟩
 | false=>
  rw[show gU s=false from by grind[gU]];exact apR ⟨c1,U,aa⟩
theorem Qz(s:gd):ar 274 [.agg s.e] [.one (B (gU s))]:=by
 have c1:=jV s.bc 0 3;cases U:(aq s.bc 0 3) with
 | true=>
  have cu:=jV s.dT 0 6;rw[show gU s=aq s.dT 0 6 from by grind[gU]];exact apS ⟨c1,U,cu,aa⟩
 | false=>
  rw[show gU s=false from by grind[gU]];exact apT ⟨c1,U,aa⟩
theorem QA(k v:Int):ar 275 [.one (I k),.one (I v)] [.one (B (eY k v))]:=by
 have c1:=jV k 0 99;cases U:(aq k 0 99) with
 | true=>
  have cu:=jV v 0 999;rw[show eY k v=aq v 0 999 from by grind[eY]];exact apo ⟨c1,U,cu,aa⟩
 | false=>
  rw[show eY k v=false from by grind[eY]];exact apq ⟨c1,U,aa⟩
theorem rT(r:aB):ar 122 [.agg r.e] [.one (B (eR r))]:=by
 have c1:=hI r.op 0 7;cases U:(aq r.op 0 7) with
 | true=>
  have cu:=Qy r.bp;cases aI:(gU r.bp) with
  | true=>
   have fJ:=hI r.key 0 99;cases bx:(aq r.key 0 99) with
   | true=>
    have E6:=hI r.val 0 999;rw[show eR r=aq r.val 0 999 from by grind[eR,eY]];exact apJ ⟨c1,U,cu,aI,fJ,bx,E6,aa⟩
   | false=>
    rw[show eR r=false from by grind[eR,eY]];exact apK ⟨c1,U,cu,aI,fJ,bx,aa⟩
  | false=>
   rw[show eR r=false from by grind[eR,eY]];exact apL ⟨c1,U,cu,aI,aa⟩
 | false=>
  rw[show eR r=false from by grind[eR,eY]];exact apM ⟨c1,U,aa⟩
theorem uP(r:aB):ar 180 [.agg r.e] [.one (B (eR r))]:=by
 have c1:=jV r.op 0 7;cases U:(aq r.op 0 7) with
 | true=>
  have cu:=Qz r.bp;cases aI:(gU r.bp) with
  | true=>
   have fJ:=QA r.key r.val;rw[show eR r=eY r.key r.val from by grind[eR,eY]];exact apN ⟨c1,U,cu,aI,fJ,aa⟩
  | false=>
   rw[show eR r=false from by grind[eR,eY]];exact apO ⟨c1,U,cu,aI,aa⟩
 | false=>
  rw[show eR r=false from by grind[eR,eY]];exact apP ⟨c1,U,aa⟩
theorem w7(s:gd):ar 270 [.agg s.e] [.agg ((eI s).1).e,.one (B ((eI s).2))]:=by
 have c1:=Qy s;cases U:(gU s) with
 | true=>
  cases ax:(decide (s.dT>=6)) with
  | true=>
   rw[show eI s=(s,false) from by grind[eI,gU,aq]];exact apV ⟨c1,(by rw[U];rfl),ax,aa⟩
  | false=>
   rw[show eI s=((⟨s.bc,s.dT+1⟩:gd),true) from by grind[eI,gU,aq]];exact apW ⟨c1,(by rw[U];rfl),ax,(by grind[gU,aq,aJ]),aa⟩
 | false=>
  rw[show eI s=(s,false) from by grind[eI,gU,aq]];exact apU ⟨c1,(by rw[U];rfl),aa⟩
theorem Ka(s:gd):ar 300 [.agg s.e] [.agg ((eI s).1).e,.one (B ((eI s).2))]:=by
 have c1:=Qz s;cases U:(gU s) with
 | true=>
  cases ax:(s.dT==6) with
  | true=>
   rw[show eI s=(s,false) from by grind[eI,gU,aq]];exact apY ⟨c1,(by rw[U];rfl),ax,aa⟩
  | false=>
   rw[show eI s=((⟨s.bc,s.dT+1⟩:gd),true) from by grind[eI,gU,aq]];exact apZ ⟨c1,(by rw[U];rfl),ax,(by grind[gU,aq,aJ]),aa⟩
 | false=>
  rw[show eI s=(s,false) from by grind[eI,gU,aq]];exact apX ⟨c1,(by rw[U];rfl),aa⟩
theorem ari(a b:Int):ar 323 [.one (I a),.one (I b)] [.one (I (less a b))]:=by
 cases h1:(decide (b<a)) with
 | true=>
  rw[show less a b=b from by grind[less]];exact apm ⟨h1,aa⟩
 | false=>
  rw[show less a b=a from by grind[less]];exact apn ⟨h1,aa⟩
theorem QB(x:Node)(ak:x.outs.length<=8388608):ar 243 [.agg x.e] [.one (B (aN x))]:=by
 cases h1:(x.kind==2) with
 | true=>
  have c2:=hI x.a 0 999;have cu:=hI x.kind 1 8;cases aI:(aq x.kind 1 8) with
  | true=>
   cases aX:(aq x.a 0 999) with
   | true=>
    cases bx:(x.b==0) with
    | true=>
     cases bN:(decide ((↑(x.outs.map a6).length:Int)>2)) with
     | true=>
      rw[show aN x=false from by grind[aN,bI,bP,aq]];exact apu ⟨h1,c2,cu,(by rw[aI];rfl),(by rw[aX];rfl),(by rw[bx];rfl),bN,aa⟩
     | false=>
      cases db:(x.kind==8) with
      | true=>
       cases dQ:(decide ((↑(x.outs.map a6).length:Int)>0)) with
       | true=>
        rw[show aN x=false from by grind[aN,bI,bP,aq]];exact apv ⟨h1,c2,cu,(by rw[aI];rfl),(by rw[aX];rfl),(by rw[bx];rfl),bN,db,dQ,aa⟩
       | false=>
        rcases tg x (by grind) with⟨cv,l⟩ | ⟨cv,l⟩
        ·skip
         rw[show aN x=false from by grind[aN,bI,bP,aq]];exact apy ⟨h1,c2,cu,(by rw[aI];rfl),(by rw[aX];rfl),(by rw[bx];rfl),bN,db,dQ,l,aa⟩
        skip
        rw[show aN x=true from by grind[aN,bI,bP,aq]];exact apz ⟨h1,c2,cu,(by rw[aI];rfl),(by rw[aX];rfl),(by rw[bx];rfl),bN,db,dQ,l,aa⟩
      | false=>
       rcases tg x (by grind) with⟨cv,l⟩ | ⟨cv,l⟩
       ·skip
        rw[show aN x=false from by grind[aN,bI,bP,aq]];exact apA ⟨h1,c2,cu,(by rw[aI];rfl),(by rw[aX];rfl),(by rw[bx];rfl),bN,db,l,aa⟩
       skip
       rw[show aN x=true from by grind[aN,bI,bP,aq]];exact apB ⟨h1,c2,cu,(by rw[aI];rfl),(by rw[aX];rfl),(by rw[bx];rfl),bN,db,l,aa⟩
    | false=>
     rw[show aN x=false from by grind[aN,bI,bP,aq]];exact apt ⟨h1,c2,cu,(by rw[aI];rfl),(by rw[aX];rfl),(by rw[bx];rfl),aa⟩
   | false=>
    rw[show aN x=false from by grind[aN,bI,bP,aq]];exact aps ⟨h1,c2,cu,(by rw[aI];rfl),(by rw[aX];rfl),aa⟩
  | false=>
   rw[show aN x=false from by grind[aN,bI,bP,aq]];exact apr ⟨h1,c2,cu,(by rw[aI];rfl),aa⟩
 | false=>
  cases dy:(x.kind==3) with
  | true=>
   have oG:=hI x.a 1 10;have mD:=hI x.b 0 (IntKind.i64.wrap (x.a-1));have lQ:=hI x.kind 1 8;cases kl:(aq x.kind 1 8) with
   | true=>
    cases iJ:(aq x.a 1 10) with
    | true=>
     cases cp:(aq x.b 0 (IntKind.i64.wrap (x.a-1))) with
     | true=>
      cases pY:(decide ((↑(x.outs.map a6).length:Int)>2)) with
      | true=>
       rw[show aN x=false from by grind[aN,bI,bP,aq]];exact apF ⟨h1,dy,oG,mD,lQ,(by rw[kl];rfl),(by rw[iJ];rfl),(by rw[cp];rfl),pY,aa⟩
      | false=>
       cases gq:(x.kind==8) with
       | true=>
        cases Fm:(decide ((↑(x.outs.map a6).length:Int)>0)) with
        | true=>
         rw[show aN x=false from by grind[aN,bI,bP,aq]];exact apG ⟨h1,dy,oG,mD,lQ,(by rw[kl];rfl),(by rw[iJ];rfl),(by rw[cp];rfl),pY,gq,Fm,aa⟩
        | false=>
         rcases tg x (by grind) with⟨cv,l⟩ | ⟨cv,l⟩
         ·skip
          rw[show aN x=false from by grind[aN,bI,bP,aq]];exact ao6 ⟨h1,dy,oG,mD,lQ,(by rw[kl];rfl),(by rw[iJ];rfl),(by rw[cp];rfl),pY,gq,Fm,l,aa⟩
         skip
         rw[show aN x=true from by grind[aN,bI,bP,aq]];exact ao7 ⟨h1,dy,oG,mD,lQ,(by rw[kl];rfl),(by rw[iJ];rfl),(by rw[cp];rfl),pY,gq,Fm,l,aa⟩
       | false=>
        rcases tg x (by grind) with⟨cv,l⟩ | ⟨cv,l⟩
        ·skip
         rw[show aN x=false from by grind[aN,bI,bP,aq]];exact ao8 ⟨h1,dy,oG,mD,lQ,(by rw[kl];rfl),(by rw[iJ];rfl),(by rw[cp];rfl),pY,gq,l,aa⟩
        skip
        rw[show aN x=true from by grind[aN,bI,bP,aq]];exact ao9 ⟨h1,dy,oG,mD,lQ,(by rw[kl];rfl),(by rw[iJ];rfl),(by rw[cp];rfl),pY,gq,l,aa⟩
     | false=>
      rw[show aN x=false from by grind[aN,bI,bP,aq]];exact apE ⟨h1,dy,oG,mD,lQ,(by rw[kl];rfl),(by rw[iJ];rfl),(by rw[cp];rfl),aa⟩
    | false=>
     rw[show aN x=false from by grind[aN,bI,bP,aq]];exact apD ⟨h1,dy,oG,mD,lQ,(by rw[kl];rfl),(by rw[iJ];rfl),aa⟩
   | false=>
    rw[show aN x=false from by grind[aN,bI,bP,aq]];exact apC ⟨h1,dy,oG,mD,lQ,(by rw[kl];rfl),aa⟩
  | false=>
   cases eM:(x.kind==4) with
   | true=>
    have lR:=hI x.a 0 99;have qV:=hI x.kind 1 8;cases jd:(aq x.kind 1 8) with
    | true=>
     cases lV:(aq x.a 0 99) with
     | true=>
      cases oL:(x.b==0) with
      | true=>
       cases oM:(decide ((↑(x.outs.map a6).length:Int)>2)) with
       | true=>
        rw[show aN x=false from by grind[aN,bI,bP,aq]];exact apd ⟨h1,dy,eM,lR,qV,(by rw[jd];rfl),(by rw[lV];rfl),(by rw[oL];rfl),oM,aa⟩
       | false=>
        cases q6:(x.kind==8) with
        | true=>
         cases mH:(decide ((↑(x.outs.map a6).length:Int)>0)) with
         | true=>
          rw[show aN x=false from by grind[aN,bI,bP,aq]];exact ape ⟨h1,dy,eM,lR,qV,(by rw[jd];rfl),(by rw[lV];rfl),(by rw[oL];rfl),oM,q6,mH,aa⟩
         | false=>
          rcases tg x (by grind) with⟨cv,l⟩ | ⟨cv,l⟩
          ·skip
           rw[show aN x=false from by grind[aN,bI,bP,aq]];exact apf ⟨h1,dy,eM,lR,qV,(by rw[jd];rfl),(by rw[lV];rfl),(by rw[oL];rfl),oM,q6,mH,l,aa⟩
          skip
          rw[show aN x=true from by grind[aN,bI,bP,aq]];exact aqH ⟨h1,dy,eM,lR,qV,(by rw[jd];rfl),(by rw[lV];rfl),(by rw[oL];rfl),oM,q6,mH,l,aa⟩
        | false=>
         rcases tg x (by grind) with⟨cv,l⟩ | ⟨cv,l⟩
         ·skip
          rw[show aN x=false from by grind[aN,bI,bP,aq]];exact aqI ⟨h1,dy,eM,lR,qV,(by rw[jd];rfl),(by rw[lV];rfl),(by rw[oL];rfl),oM,q6,l,aa⟩
         skip
         rw[show aN x=true from by grind[aN,bI,bP,aq]];exact aqJ ⟨h1,dy,eM,lR,qV,(by rw[jd];rfl),(by rw[lV];rfl),(by rw[oL];rfl),oM,q6,l,aa⟩
      | false=>
       rw[show aN x=false from by grind[aN,bI,bP,aq]];exact apc ⟨h1,dy,eM,lR,qV,(by rw[jd];rfl),(by rw[lV];rfl),(by rw[oL];rfl),aa⟩
     | false=>
      rw[show aN x=false from by grind[aN,bI,bP,aq]];exact apb ⟨h1,dy,eM,lR,qV,(by rw[jd];rfl),(by rw[lV];rfl),aa⟩
    | false=>
     rw[show aN x=false from by grind[aN,bI,bP,aq]];exact apa ⟨h1,dy,eM,lR,qV,(by rw[jd];rfl),aa⟩
   | false=>
    have qW:=hI x.kind 1 8;cases q7:(aq x.kind 1 8) with
    | true=>
     cases nN:(x.a==0) with
     | true=>
      cases cO:(x.b==0) with
      | true=>
       cases vN:(decide ((↑(x.outs.map a6).length:Int)>2)) with
       | true=>
        rw[show aN x=false from by grind[aN,bI,bP,aq]];exact aqN ⟨h1,dy,eM,qW,(by rw[q7];rfl),(by rw[nN];rfl),(by rw[cO];rfl),vN,aa⟩
       | false=>
        cases jA:(x.kind==8) with
        | true=>
         cases kn:(decide ((↑(x.outs.map a6).length:Int)>0)) with
         | true=>
          rw[show aN x=false from by grind[aN,bI,bP,aq]];exact aqO ⟨h1,dy,eM,qW,(by rw[q7];rfl),(by rw[nN];rfl),(by rw[cO];rfl),vN,jA,kn,aa⟩
         | false=>
          rcases tg x (by grind) with⟨cv,l⟩ | ⟨cv,l⟩
          ·skip
           rw[show aN x=false from by grind[aN,bI,bP,aq]];exact aqP ⟨h1,dy,eM,qW,(by rw[q7];rfl),(by rw[nN];rfl),(by rw[cO];rfl),vN,jA,kn,l,aa⟩
          skip
          rw[show aN x=true from by grind[aN,bI,bP,aq]];exact aqQ ⟨h1,dy,eM,qW,(by rw[q7];rfl),(by rw[nN];rfl),(by rw[cO];rfl),vN,jA,kn,l,aa⟩
        | false=>
         rcases tg x (by grind) with⟨cv,l⟩ | ⟨cv,l⟩
         ·skip
          rw[show aN x=false from by grind[aN,bI,bP,aq]];exact aqR ⟨h1,dy,eM,qW,(by rw[q7];rfl),(by rw[nN];rfl),(by rw[cO];rfl),vN,jA,l,aa⟩
         skip
         rw[show aN x=true from by grind[aN,bI,bP,aq]];exact aqS ⟨h1,dy,eM,qW,(by rw[q7];rfl),(by rw[nN];rfl),(by rw[cO];rfl),vN,jA,l,aa⟩
      | false=>
       rw[show aN x=false from by grind[aN,bI,bP,aq]];exact aqM ⟨h1,dy,eM,qW,(by rw[q7];rfl),(by rw[nN];rfl),(by rw[cO];rfl),aa⟩
     | false=>
      rw[show aN x=false from by grind[aN,bI,bP,aq]];exact aqL ⟨h1,dy,eM,qW,(by rw[q7];rfl),(by rw[nN];rfl),aa⟩
    | false=>
     rw[show aN x=false from by grind[aN,bI,bP,aq]];exact aqK ⟨h1,dy,eM,qW,(by rw[q7];rfl),aa⟩
theorem QC(x:Node)(ak:x.outs.length<=8388608):ar 273 [.agg x.e] [.one (B (aN x))]:=by
 cases h1:(x.kind==2) with
 | true=>
  have c2:=jV x.a 0 999;cases ax:(aq x.a 0 999) with
  | true=>
   cases aI:(x.b != 0) with
   | true=>
    rw[show aN x=false from by grind[aN,bI,bP,aq]];exact aqU ⟨h1,c2,(by rw[ax];rfl),aI,aa⟩
   | false=>
    cases aX:(decide ((↑(x.outs.map a6).length:Int)>2)) with
    | true=>
     rw[show aN x=false from by grind[aN,bI,bP,aq]];exact aqV ⟨h1,c2,(by rw[ax];rfl),aI,aX,aa⟩
    | false=>
     cases bx:(x.kind==8) with
     | true=>
      cases bN:(decide ((↑(x.outs.map a6).length:Int)>0)) with
      | true=>
       rw[show aN x=false from by grind[aN,bI,bP,aq]];exact aqW ⟨h1,c2,(by rw[ax];rfl),aI,aX,bx,bN,aa⟩
      | false=>
       cases db:((↑(x.outs.map a6).length:Int)==2) with
       | true=>
        obtain⟨EG,rr⟩:=cS (xs:=x.outs) (i:=0) (by grind[aq,aJ]);obtain⟨Eh,Gn⟩:=cS (xs:=x.outs) (i:=1) (by grind[aq,aJ]);cases hn:(EG==Eh) with
        | true=>
         rw[show aN x=false from by grind[aN,bI,bP,aq]];exact aqX ⟨h1,c2,(by rw[ax];rfl),aI,aX,bx,bN,db,(by grind[aq,aJ]),(by grind[aq,aJ]),(bC a6 rr),(by grind[aq,aJ]),(by grind[aq,aJ]),(bC a6 Gn),hn,aa⟩
        | false=>
         rcases gz x ak with⟨cv,l⟩ | ⟨cv,l⟩
         ·skip
          rw[show aN x=false from by grind[aN,bI,bP,aq]];exact aq1 ⟨h1,c2,(by rw[ax];rfl),aI,aX,bx,bN,db,(by grind[aq,aJ]),(by grind[aq,aJ]),(bC a6 rr),(by grind[aq,aJ]),(by grind[aq,aJ]),(bC a6 Gn),hn,l,aa⟩
         skip
         rw[show aN x=true from by grind[aN,bI,bP,aq]];exact aq2 ⟨h1,c2,(by rw[ax];rfl),aI,aX,bx,bN,db,(by grind[aq,aJ]),(by grind[aq,aJ]),(bC a6 rr),(by grind[aq,aJ]),(by grind[aq,aJ]),(bC a6 Gn),hn,l,aa⟩
       | false=>
        rcases gz x ak with⟨cv,l⟩ | ⟨cv,l⟩
        ·skip
         rw[show aN x=false from by grind[aN,bI,bP,aq]];exact aq3 ⟨h1,c2,(by rw[ax];rfl),aI,aX,bx,bN,db,l,aa⟩
        skip
        rw[show aN x=true from by grind[aN,bI,bP,aq]];exact aq4 ⟨h1,c2,(by rw[ax];rfl),aI,aX,bx,bN,db,l,aa⟩
     | false=>
      cases hB:((↑(x.outs.map a6).length:Int)==2) with
      | true=>
       obtain⟨AD,Gt⟩:=cS (xs:=x.outs) (i:=0) (by grind[aq,aJ]);obtain⟨AE,Gu⟩:=cS (xs:=x.outs) (i:=1) (by grind[aq,aJ]);cases iJ:(AD==AE) with
       | true=>
        rw[show aN x=false from by grind[aN,bI,bP,aq]];exact aq5 ⟨h1,c2,(by rw[ax];rfl),aI,aX,bx,hB,(by grind[aq,aJ]),(by grind[aq,aJ]),(bC a6 Gt),(by grind[aq,aJ]),(by grind[aq,aJ]),(bC a6 Gu),iJ,aa⟩
       | false=>
        rcases gz x ak with⟨cv,l⟩ | ⟨cv,l⟩
        ·skip
         rw[show aN x=false from by grind[aN,bI,bP,aq]];exact aq6 ⟨h1,c2,(by rw[ax];rfl),aI,aX,bx,hB,(by grind[aq,aJ]),(by grind[aq,aJ]),(bC a6 Gt),(by grind[aq,aJ]),(by grind[aq,aJ]),(bC a6 Gu),iJ,l,aa⟩
        skip
        rw[show aN x=true from by grind[aN,bI,bP,aq]];exact aqh ⟨h1,c2,(by rw[ax];rfl),aI,aX,bx,hB,(by grind[aq,aJ]),(by grind[aq,aJ]),(bC a6 Gt),(by grind[aq,aJ]),(by grind[aq,aJ]),(bC a6 Gu),iJ,l,aa⟩
      | false=>
       rcases gz x ak with⟨cv,l⟩ | ⟨cv,l⟩
       ·skip
        rw[show aN x=false from by grind[aN,bI,bP,aq]];exact aqi ⟨h1,c2,(by rw[ax];rfl),aI,aX,bx,hB,l,aa⟩
       skip
       rw[show aN x=true from by grind[aN,bI,bP,aq]];exact aqj ⟨h1,c2,(by rw[ax];rfl),aI,aX,bx,hB,l,aa⟩
  | false=>
   rw[show aN x=false from by grind[aN,bI,bP,aq]];exact aqT ⟨h1,c2,(by rw[ax];rfl),aa⟩
 | false=>
  cases cp:(x.kind==3) with
  | true=>
   have kP:=jV x.a 1 10;cases gq:(aq x.a 1 10) with
   | true=>
    have ia:=jV x.b 0 (IntKind.i64.wrap (x.a-1));cases eM:(aq x.b 0 (IntKind.i64.wrap (x.a-1))) with
    | true=>
     cases nM:(decide ((↑(x.outs.map a6).length:Int)>2)) with
     | true=>
      rw[show aN x=false from by grind[aN,bI,bP,aq]];exact aqm ⟨h1,cp,kP,(by rw[gq];rfl),ia,(by rw[eM];rfl),nM,aa⟩
     | false=>
      cases km:(x.kind==8) with
      | true=>
       cases jd:(decide ((↑(x.outs.map a6).length:Int)>0)) with
       | true=>
        rw[show aN x=false from by grind[aN,bI,bP,aq]];exact aqn ⟨h1,cp,kP,(by rw[gq];rfl),ia,(by rw[eM];rfl),nM,km,jd,aa⟩
       | false=>
        cases lV:((↑(x.outs.map a6).length:Int)==2) with
        | true=>
         obtain⟨El,Gv⟩:=cS (xs:=x.outs) (i:=0) (by grind[aq,aJ]);obtain⟨Em,Gw⟩:=cS (xs:=x.outs) (i:=1) (by grind[aq,aJ]);cases q6:(El==Em) with
         | true=>
          rw[show aN x=false from by grind[aN,bI,bP,aq]];exact aqo ⟨h1,cp,kP,(by rw[gq];rfl),ia,(by rw[eM];rfl),nM,km,jd,lV,(by grind[aq,aJ]),(by grind[aq,aJ]),(bC a6 Gv),(by grind[aq,aJ]),(by grind[aq,aJ]),(bC a6 Gw),q6,aa⟩
         | false=>
          rcases gz x ak with⟨cv,l⟩ | ⟨cv,l⟩
          ·skip
           rw[show aN x=false from by grind[aN,bI,bP,aq]];exact aqp ⟨h1,cp,kP,(by rw[gq];rfl),ia,(by rw[eM];rfl),nM,km,jd,lV,(by grind[aq,aJ]),(by grind[aq,aJ]),(bC a6 Gv),(by grind[aq,aJ]),(by grind[aq,aJ]),(bC a6 Gw),q6,l,aa⟩
          skip
          rw[show aN x=true from by grind[aN,bI,bP,aq]];exact aqq ⟨h1,cp,kP,(by rw[gq];rfl),ia,(by rw[eM];rfl),nM,km,jd,lV,(by grind[aq,aJ]),(by grind[aq,aJ]),(bC a6 Gv),(by grind[aq,aJ]),(by grind[aq,aJ]),(bC a6 Gw),q6,l,aa⟩
        | false=>
         rcases gz x ak with⟨cv,l⟩ | ⟨cv,l⟩
         ·skip
          rw[show aN x=false from by grind[aN,bI,bP,aq]];exact aqr ⟨h1,cp,kP,(by rw[gq];rfl),ia,(by rw[eM];rfl),nM,km,jd,lV,l,aa⟩
         skip
         rw[show aN x=true from by grind[aN,bI,bP,aq]];exact aqs ⟨h1,cp,kP,(by rw[gq];rfl),ia,(by rw[eM];rfl),nM,km,jd,lV,l,aa⟩
      | false=>
       cases mH:((↑(x.outs.map a6).length:Int)==2) with
       | true=>
        obtain⟨AK,Gx⟩:=cS (xs:=x.outs) (i:=0) (by grind[aq,aJ]);obtain⟨Ex,Gy⟩:=cS (xs:=x.outs) (i:=1) (by grind[aq,aJ]);cases nN:(AK==Ex) with
        | true=>
         rw[show aN x=false from by grind[aN,bI,bP,aq]];exact aqt ⟨h1,cp,kP,(by rw[gq];rfl),ia,(by rw[eM];rfl),nM,km,mH,(by grind[aq,aJ]),(by grind[aq,aJ]),(bC a6 Gx),(by grind[aq,aJ]),(by grind[aq,aJ]),(bC a6 Gy),nN,aa⟩
        | false=>
         rcases gz x ak with⟨cv,l⟩ | ⟨cv,l⟩
         ·skip
          rw[show aN x=false from by grind[aN,bI,bP,aq]];exact aqu ⟨h1,cp,kP,(by rw[gq];rfl),ia,(by rw[eM];rfl),nM,km,mH,(by grind[aq,aJ]),(by grind[aq,aJ]),(bC a6 Gx),(by grind[aq,aJ]),(by grind[aq,aJ]),(bC a6 Gy),nN,l,aa⟩
         skip
         rw[show aN x=true from by grind[aN,bI,bP,aq]];exact aqv ⟨h1,cp,kP,(by rw[gq];rfl),ia,(by rw[eM];rfl),nM,km,mH,(by grind[aq,aJ]),(by grind[aq,aJ]),(bC a6 Gx),(by grind[aq,aJ]),(by grind[aq,aJ]),(bC a6 Gy),nN,l,aa⟩
       | false=>
        rcases gz x ak with⟨cv,l⟩ | ⟨cv,l⟩
        ·skip
         rw[show aN x=false from by grind[aN,bI,bP,aq]];exact aqw ⟨h1,cp,kP,(by rw[gq];rfl),ia,(by rw[eM];rfl),nM,km,mH,l,aa⟩
        skip
        rw[show aN x=true from by grind[aN,bI,bP,aq]];exact aqx ⟨h1,cp,kP,(by rw[gq];rfl),ia,(by rw[eM];rfl),nM,km,mH,l,aa⟩
    | false=>
     rw[show aN x=false from by grind[aN,bI,bP,aq]];exact aql ⟨h1,cp,kP,(by rw[gq];rfl),ia,(by rw[eM];rfl),aa⟩
   | false=>
    rw[show aN x=false from by grind[aN,bI,bP,aq]];exact aqk ⟨h1,cp,kP,(by rw[gq];rfl),aa⟩
  | false=>
   cases cO:(x.kind==4) with
   | true=>
    have lS:=jV x.a 0 99;cases jA:(aq x.a 0 99) with
    | true=>
     cases kn:(x.b != 0) with
     | true=>
      rw[show aN x=false from by grind[aN,bI,bP,aq]];exact aqz ⟨h1,cp,cO,lS,(by rw[jA];rfl),kn,aa⟩
     | false=>
      cases nO:(decide ((↑(x.outs.map a6).length:Int)>2)) with
      | true=>
       rw[show aN x=false from by grind[aN,bI,bP,aq]];exact aqA ⟨h1,cp,cO,lS,(by rw[jA];rfl),kn,nO,aa⟩
      | false=>
       cases oN:(x.kind==8) with
       | true=>
        cases vO:(decide ((↑(x.outs.map a6).length:Int)>0)) with
        | true=>
         rw[show aN x=false from by grind[aN,bI,bP,aq]];exact aqB ⟨h1,cp,cO,lS,(by rw[jA];rfl),kn,nO,oN,vO,aa⟩
        | false=>
         cases xZ:((↑(x.outs.map a6).length:Int)==2) with
         | true=>
          obtain⟨asI,Gz⟩:=cS (xs:=x.outs) (i:=0) (by grind[aq,aJ]);obtain⟨asJ,GC⟩:=cS (xs:=x.outs) (i:=1) (by grind[aq,aJ]);cases Fo:(asI==asJ) with
          | true=>
           rw[show aN x=false from by grind[aN,bI,bP,aq]];exact aqC ⟨h1,cp,cO,lS,(by rw[jA];rfl),kn,nO,oN,vO,xZ,(by grind[aq,aJ]),(by grind[aq,aJ]),(bC a6 Gz),(by grind[aq,aJ]),(by grind[aq,aJ]),(bC a6 GC),Fo,aa⟩
          | false=>
           rcases gz x ak with⟨cv,l⟩ | ⟨cv,l⟩
           ·skip
            rw[show aN x=false from by grind[aN,bI,bP,aq]];exact aqD ⟨h1,cp,cO,lS,(by rw[jA];rfl),kn,nO,oN,vO,xZ,(by grind[aq,aJ]),(by grind[aq,aJ]),(bC a6 Gz),(by grind[aq,aJ]),(by grind[aq,aJ]),(bC a6 GC),Fo,l,aa⟩
           skip
           rw[show aN x=true from by grind[aN,bI,bP,aq]];exact aqE ⟨h1,cp,cO,lS,(by rw[jA];rfl),kn,nO,oN,vO,xZ,(by grind[aq,aJ]),(by grind[aq,aJ]),(bC a6 Gz),(by grind[aq,aJ]),(by grind[aq,aJ]),(bC a6 GC),Fo,l,aa⟩
         | false=>
          rcases gz x ak with⟨cv,l⟩ | ⟨cv,l⟩
          ·skip
           rw[show aN x=false from by grind[aN,bI,bP,aq]];exact aqF ⟨h1,cp,cO,lS,(by rw[jA];rfl),kn,nO,oN,vO,xZ,l,aa⟩
          skip
          rw[show aN x=true from by grind[aN,bI,bP,aq]];exact aqG ⟨h1,cp,cO,lS,(by rw[jA];rfl),kn,nO,oN,vO,xZ,l,aa⟩
       | false=>
        cases x0:((↑(x.outs.map a6).length:Int)==2) with
        | true=>
         obtain⟨asK,GD⟩:=cS (xs:=x.outs) (i:=0) (by grind[aq,aJ]);obtain⟨asL,GF⟩:=cS (xs:=x.outs) (i:=1) (by grind[aq,aJ]);cases Fp:(asK==asL) with
         | true=>
          rw[show aN x=false from by grind[aN,bI,bP,aq]];exact ap7 ⟨h1,cp,cO,lS,(by rw[jA];rfl),kn,nO,oN,x0,(by grind[aq,aJ]),(by grind[aq,aJ]),(bC a6 GD),(by grind[aq,aJ]),(by grind[aq,aJ]),(bC a6 GF),Fp,aa⟩
         | false=>
          rcases gz x ak with⟨cv,l⟩ | ⟨cv,l⟩
          ·skip
           rw[show aN x=false from by grind[aN,bI,bP,aq]];exact ap8 ⟨h1,cp,cO,lS,(by rw[jA];rfl),kn,nO,oN,x0,(by grind[aq,aJ]),(by grind[aq,aJ]),(bC a6 GD),(by grind[aq,aJ]),(by grind[aq,aJ]),(bC a6 GF),Fp,l,aa⟩
          skip
          rw[show aN x=true from by grind[aN,bI,bP,aq]];exact ap9 ⟨h1,cp,cO,lS,(by rw[jA];rfl),kn,nO,oN,x0,(by grind[aq,aJ]),(by grind[aq,aJ]),(bC a6 GD),(by grind[aq,aJ]),(by grind[aq,aJ]),(bC a6 GF),Fp,l,aa⟩
        | false=>
         rcases gz x ak with⟨cv,l⟩ | ⟨cv,l⟩
         ·skip
          rw[show aN x=false from by grind[aN,bI,bP,aq]];exact aqa ⟨h1,cp,cO,lS,(by rw[jA];rfl),kn,nO,oN,x0,l,aa⟩
         skip
         rw[show aN x=true from by grind[aN,bI,bP,aq]];exact aqb ⟨h1,cp,cO,lS,(by rw[jA];rfl),kn,nO,oN,x0,l,aa⟩
    | false=>
     rw[show aN x=false from by grind[aN,bI,bP,aq]];exact aqy ⟨h1,cp,cO,lS,(by rw[jA];rfl),aa⟩
   | false=>
    cases cV:(x.kind==1) with
    | true=>
     cases lW:(x.a != 0) with
     | true=>
      rw[show aN x=false from by grind[aN,bI,bP,aq]];exact aqc ⟨h1,cp,cO,cV,cV,lW,aa⟩
     | false=>
      cases mI:(x.b != 0) with
      | true=>
       rw[show aN x=false from by grind[aN,bI,bP,aq]];exact aqd ⟨h1,cp,cO,cV,cV,lW,mI,aa⟩
      | false=>
       cases nP:(decide ((↑(x.outs.map a6).length:Int)>2)) with
       | true=>
        rw[show aN x=false from by grind[aN,bI,bP,aq]];exact aqe ⟨h1,cp,cO,cV,cV,lW,mI,nP,aa⟩
       | false=>
        cases oO:(x.kind==8) with
        | true=>
         cases vP:(decide ((↑(x.outs.map a6).length:Int)>0)) with
         | true=>
          rw[show aN x=false from by grind[aN,bI,bP,aq]];exact aqf ⟨h1,cp,cO,cV,cV,lW,mI,nP,oO,vP,aa⟩
         | false=>
          cases x1:((↑(x.outs.map a6).length:Int)==2) with
          | true=>
           obtain⟨asM,GG⟩:=cS (xs:=x.outs) (i:=0) (by grind[aq,aJ]);obtain⟨asN,GH⟩:=cS (xs:=x.outs) (i:=1) (by grind[aq,aJ]);cases Fq:(asM==asN) with
           | true=>
            rw[show aN x=false from by grind[aN,bI,bP,aq]];exact aqg ⟨h1,cp,cO,cV,cV,lW,mI,nP,oO,vP,x1,(by grind[aq,aJ]),(by grind[aq,aJ]),(bC a6 GG),(by grind[aq,aJ]),(by grind[aq,aJ]),(bC a6 GH),Fq,aa⟩
           | false=>
            rcases gz x ak with⟨cv,l⟩ | ⟨cv,l⟩
            ·skip
             rw[show aN x=false from by grind[aN,bI,bP,aq]];exact arK ⟨h1,cp,cO,cV,cV,lW,mI,nP,oO,vP,x1,(by grind[aq,aJ]),(by grind[aq,aJ]),(bC a6 GG),(by grind[aq,aJ]),(by grind[aq,aJ]),(bC a6 GH),Fq,l,aa⟩
            skip
            rw[show aN x=true from by grind[aN,bI,bP,aq]];exact arL ⟨h1,cp,cO,cV,cV,lW,mI,nP,oO,vP,x1,(by grind[aq,aJ]),(by grind[aq,aJ]),(bC a6 GG),(by grind[aq,aJ]),(by grind[aq,aJ]),(bC a6 GH),Fq,l,aa⟩
          | false=>
           rcases gz x ak with⟨cv,l⟩ | ⟨cv,l⟩
           ·skip
            rw[show aN x=false from by grind[aN,bI,bP,aq]];exact arM ⟨h1,cp,cO,cV,cV,lW,mI,nP,oO,vP,x1,l,aa⟩
           skip
           rw[show aN x=true from by grind[aN,bI,bP,aq]];exact arN ⟨h1,cp,cO,cV,cV,lW,mI,nP,oO,vP,x1,l,aa⟩
        | false=>
         cases x2:((↑(x.outs.map a6).length:Int)==2) with
         | true=>
          obtain⟨asO,GI⟩:=cS (xs:=x.outs) (i:=0) (by grind[aq,aJ]);obtain⟨asP,GJ⟩:=cS (xs:=x.outs) (i:=1) (by grind[aq,aJ]);cases Fs:(asO==asP) with
          | true=>
           rw[show aN x=false from by grind[aN,bI,bP,aq]];exact arO ⟨h1,cp,cO,cV,cV,lW,mI,nP,oO,x2,(by grind[aq,aJ]),(by grind[aq,aJ]),(bC a6 GI),(by grind[aq,aJ]),(by grind[aq,aJ]),(bC a6 GJ),Fs,aa⟩
          | false=>
           rcases gz x ak with⟨cv,l⟩ | ⟨cv,l⟩
           ·skip
            rw[show aN x=false from by grind[aN,bI,bP,aq]];exact arP ⟨h1,cp,cO,cV,cV,lW,mI,nP,oO,x2,(by grind[aq,aJ]),(by grind[aq,aJ]),(bC a6 GI),(by grind[aq,aJ]),(by grind[aq,aJ]),(bC a6 GJ),Fs,l,aa⟩
           skip
           rw[show aN x=true from by grind[aN,bI,bP,aq]];exact arQ ⟨h1,cp,cO,cV,cV,lW,mI,nP,oO,x2,(by grind[aq,aJ]),(by grind[aq,aJ]),(bC a6 GI),(by grind[aq,aJ]),(by grind[aq,aJ]),(bC a6 GJ),Fs,l,aa⟩
         | false=>
          rcases gz x ak with⟨cv,l⟩ | ⟨cv,l⟩
          ·skip
           rw[show aN x=false from by grind[aN,bI,bP,aq]];exact arR ⟨h1,cp,cO,cV,cV,lW,mI,nP,oO,x2,l,aa⟩
          skip
          rw[show aN x=true from by grind[aN,bI,bP,aq]];exact arS ⟨h1,cp,cO,cV,cV,lW,mI,nP,oO,x2,l,aa⟩
    | false=>
     cases dp:(x.kind==5) with
     | true=>
      cases lX:(x.a != 0) with
      | true=>
       rw[show aN x=false from by grind[aN,bI,bP,aq]];exact arT ⟨h1,cp,cO,cV,dp,dp,lX,aa⟩
      | false=>
       cases mJ:(x.b != 0) with
       | true=>
        rw[show aN x=false from by grind[aN,bI,bP,aq]];exact arU ⟨h1,cp,cO,cV,dp,dp,lX,mJ,aa⟩
       | false=>
        cases nQ:(decide ((↑(x.outs.map a6).length:Int)>2)) with
        | true=>
         rw[show aN x=false from by grind[aN,bI,bP,aq]];exact arV ⟨h1,cp,cO,cV,dp,dp,lX,mJ,nQ,aa⟩
        | false=>
         cases oP:(x.kind==8) with
         | true=>
          cases vQ:(decide ((↑(x.outs.map a6).length:Int)>0)) with
          | true=>
           rw[show aN x=false from by grind[aN,bI,bP,aq]];exact arW ⟨h1,cp,cO,cV,dp,dp,lX,mJ,nQ,oP,vQ,aa⟩
          | false=>
           cases x3:((↑(x.outs.map a6).length:Int)==2) with
           | true=>
            obtain⟨asQ,GK⟩:=cS (xs:=x.outs) (i:=0) (by grind[aq,aJ]);obtain⟨asR,GL⟩:=cS (xs:=x.outs) (i:=1) (by grind[aq,aJ]);cases Ft:(asQ==asR) with
            | true=>
             rw[show aN x=false from by grind[aN,bI,bP,aq]];exact arX ⟨h1,cp,cO,cV,dp,dp,lX,mJ,nQ,oP,vQ,x3,(by grind[aq,aJ]),(by grind[aq,aJ]),(bC a6 GK),(by grind[aq,aJ]),(by grind[aq,aJ]),(bC a6 GL),Ft,aa⟩
            | false=>
             rcases gz x ak with⟨cv,l⟩ | ⟨cv,l⟩
             ·skip
              rw[show aN x=false from by grind[aN,bI,bP,aq]];exact arY ⟨h1,cp,cO,cV,dp,dp,lX,mJ,nQ,oP,vQ,x3,(by grind[aq,aJ]),(by grind[aq,aJ]),(bC a6 GK),(by grind[aq,aJ]),(by grind[aq,aJ]),(bC a6 GL),Ft,l,aa⟩
             skip
             rw[show aN x=true from by grind[aN,bI,bP,aq]];exact arZ ⟨h1,cp,cO,cV,dp,dp,lX,mJ,nQ,oP,vQ,x3,(by grind[aq,aJ]),(by grind[aq,aJ]),(bC a6 GK),(by grind[aq,aJ]),(by grind[aq,aJ]),(bC a6 GL),Ft,l,aa⟩
           | false=>
            rcases gz x ak with⟨cv,l⟩ | ⟨cv,l⟩
            ·skip
             rw[show aN x=false from by grind[aN,bI,bP,aq]];exact ar0 ⟨h1,cp,cO,cV,dp,dp,lX,mJ,nQ,oP,vQ,x3,l,aa⟩
            skip
            rw[show aN x=true from by grind[aN,bI,bP,aq]];exact ar1 ⟨h1,cp,cO,cV,dp,dp,lX,mJ,nQ,oP,vQ,x3,l,aa⟩
         | false=>
          cases x4:((↑(x.outs.map a6).length:Int)==2) with
          | true=>
           obtain⟨asS,GM⟩:=cS (xs:=x.outs) (i:=0) (by grind[aq,aJ]);obtain⟨asT,GN⟩:=cS (xs:=x.outs) (i:=1) (by grind[aq,aJ]);cases Fu:(asS==asT) with
           | true=>
            rw[show aN x=false from by grind[aN,bI,bP,aq]];exact ar2 ⟨h1,cp,cO,cV,dp,dp,lX,mJ,nQ,oP,x4,(by grind[aq,aJ]),(by grind[aq,aJ]),(bC a6 GM),(by grind[aq,aJ]),(by grind[aq,aJ]),(bC a6 GN),Fu,aa⟩
           | false=>
            rcases gz x ak with⟨cv,l⟩ | ⟨cv,l⟩
            ·skip
             rw[show aN x=false from by grind[aN,bI,bP,aq]];exact ar3 ⟨h1,cp,cO,cV,dp,dp,lX,mJ,nQ,oP,x4,(by grind[aq,aJ]),(by grind[aq,aJ]),(bC a6 GM),(by grind[aq,aJ]),(by grind[aq,aJ]),(bC a6 GN),Fu,l,aa⟩
            skip
            rw[show aN x=true from by grind[aN,bI,bP,aq]];exact ar4 ⟨h1,cp,cO,cV,dp,dp,lX,mJ,nQ,oP,x4,(by grind[aq,aJ]),(by grind[aq,aJ]),(bC a6 GM),(by grind[aq,aJ]),(by grind[aq,aJ]),(bC a6 GN),Fu,l,aa⟩
          | false=>
           rcases gz x ak with⟨cv,l⟩ | ⟨cv,l⟩
           ·skip
            rw[show aN x=false from by grind[aN,bI,bP,aq]];exact ar5 ⟨h1,cp,cO,cV,dp,dp,lX,mJ,nQ,oP,x4,l,aa⟩
           skip
           rw[show aN x=true from by grind[aN,bI,bP,aq]];exact ar6 ⟨h1,cp,cO,cV,dp,dp,lX,mJ,nQ,oP,x4,l,aa⟩
     | false=>
      cases ea:(x.kind==6) with
      | true=>
       cases lY:(x.a != 0) with
       | true=>
        rw[show aN x=false from by grind[aN,bI,bP,aq]];exact ar7 ⟨h1,cp,cO,cV,dp,ea,ea,lY,aa⟩
       | false=>
        cases mK:(x.b != 0) with
        | true=>
         rw[show aN x=false from by grind[aN,bI,bP,aq]];exact ar8 ⟨h1,cp,cO,cV,dp,ea,ea,lY,mK,aa⟩
        | false=>
         cases nR:(decide ((↑(x.outs.map a6).length:Int)>2)) with
         | true=>
          rw[show aN x=false from by grind[aN,bI,bP,aq]];exact ar9 ⟨h1,cp,cO,cV,dp,ea,ea,lY,mK,nR,aa⟩
         | false=>
          cases oQ:(x.kind==8) with
          | true=>
           cases vR:(decide ((↑(x.outs.map a6).length:Int)>0)) with
           | true=>
            rw[show aN x=false from by grind[aN,bI,bP,aq]];exact arj ⟨h1,cp,cO,cV,dp,ea,ea,lY,mK,nR,oQ,vR,aa⟩
           | false=>
            cases x5:((↑(x.outs.map a6).length:Int)==2) with
            | true=>
             obtain⟨asU,GO⟩:=cS (xs:=x.outs) (i:=0) (by grind[aq,aJ]);obtain⟨asV,GQ⟩:=cS (xs:=x.outs) (i:=1) (by grind[aq,aJ]);cases Fv:(asU==asV) with
             | true=>
              rw[show aN x=false from by grind[aN,bI,bP,aq]];exact ark ⟨h1,cp,cO,cV,dp,ea,ea,lY,mK,nR,oQ,vR,x5,(by grind[aq,aJ]),(by grind[aq,aJ]),(bC a6 GO),(by grind[aq,aJ]),(by grind[aq,aJ]),(bC a6 GQ),Fv,aa⟩
             | false=>
              rcases gz x ak with⟨cv,l⟩ | ⟨cv,l⟩
              ·skip
               rw[show aN x=false from by grind[aN,bI,bP,aq]];exact arl ⟨h1,cp,cO,cV,dp,ea,ea,lY,mK,nR,oQ,vR,x5,(by grind[aq,aJ]),(by grind[aq,aJ]),(bC a6 GO),(by grind[aq,aJ]),(by grind[aq,aJ]),(bC a6 GQ),Fv,l,aa⟩
              skip
              rw[show aN x=true from by grind[aN,bI,bP,aq]];exact arm ⟨h1,cp,cO,cV,dp,ea,ea,lY,mK,nR,oQ,vR,x5,(by grind[aq,aJ]),(by grind[aq,aJ]),(bC a6 GO),(by grind[aq,aJ]),(by grind[aq,aJ]),(bC a6 GQ),Fv,l,aa⟩
            | false=>
             rcases gz x ak with⟨cv,l⟩ | ⟨cv,l⟩
             ·skip
              rw[show aN x=false from by grind[aN,bI,bP,aq]];exact arn ⟨h1,cp,cO,cV,dp,ea,ea,lY,mK,nR,oQ,vR,x5,l,aa⟩
             skip
             rw[show aN x=true from by grind[aN,bI,bP,aq]];exact aro ⟨h1,cp,cO,cV,dp,ea,ea,lY,mK,nR,oQ,vR,x5,l,aa⟩
          | false=>
           cases x6:((↑(x.outs.map a6).length:Int)==2) with
           | true=>
            obtain⟨asW,GR⟩:=cS (xs:=x.outs) (i:=0) (by grind[aq,aJ]);obtain⟨asX,GU⟩:=cS (xs:=x.outs) (i:=1) (by grind[aq,aJ]);cases Fw:(asW==asX) with
            | true=>
             rw[show aN x=false from by grind[aN,bI,bP,aq]];exact arp ⟨h1,cp,cO,cV,dp,ea,ea,lY,mK,nR,oQ,x6,(by grind[aq,aJ]),(by grind[aq,aJ]),(bC a6 GR),(by grind[aq,aJ]),(by grind[aq,aJ]),(bC a6 GU),Fw,aa⟩
            | false=>
             rcases gz x ak with⟨cv,l⟩ | ⟨cv,l⟩
             ·skip
              rw[show aN x=false from by grind[aN,bI,bP,aq]];exact arq ⟨h1,cp,cO,cV,dp,ea,ea,lY,mK,nR,oQ,x6,(by grind[aq,aJ]),(by grind[aq,aJ]),(bC a6 GR),(by grind[aq,aJ]),(by grind[aq,aJ]),(bC a6 GU),Fw,l,aa⟩
             skip
             rw[show aN x=true from by grind[aN,bI,bP,aq]];exact ars ⟨h1,cp,cO,cV,dp,ea,ea,lY,mK,nR,oQ,x6,(by grind[aq,aJ]),(by grind[aq,aJ]),(bC a6 GR),(by grind[aq,aJ]),(by grind[aq,aJ]),(bC a6 GU),Fw,l,aa⟩
           | false=>
            rcases gz x ak with⟨cv,l⟩ | ⟨cv,l⟩
            ·skip
             rw[show aN x=false from by grind[aN,bI,bP,aq]];exact art ⟨h1,cp,cO,cV,dp,ea,ea,lY,mK,nR,oQ,x6,l,aa⟩
            skip
            rw[show aN x=true from by grind[aN,bI,bP,aq]];exact aru ⟨h1,cp,cO,cV,dp,ea,ea,lY,mK,nR,oQ,x6,l,aa⟩
      | false=>
       cases fi:(x.kind==7) with
       | true=>
        cases lZ:(x.a != 0) with
        | true=>
         rw[show aN x=false from by grind[aN,bI,bP,aq]];exact arv ⟨h1,cp,cO,cV,dp,ea,fi,fi,lZ,aa⟩
        | false=>
         cases mL:(x.b != 0) with
         | true=>
          rw[show aN x=false from by grind[aN,bI,bP,aq]];exact arw ⟨h1,cp,cO,cV,dp,ea,fi,fi,lZ,mL,aa⟩
         | false=>
          cases nS:(decide ((↑(x.outs.map a6).length:Int)>2)) with
          | true=>
           rw[show aN x=false from by grind[aN,bI,bP,aq]];exact arx ⟨h1,cp,cO,cV,dp,ea,fi,fi,lZ,mL,nS,aa⟩
          | false=>
           cases oR:(x.kind==8) with
           | true=>
            cases vS:(decide ((↑(x.outs.map a6).length:Int)>0)) with
            | true=>
             rw[show aN x=false from by grind[aN,bI,bP,aq]];exact ary ⟨h1,cp,cO,cV,dp,ea,fi,fi,lZ,mL,nS,oR,vS,aa⟩
            | false=>
             cases x7:((↑(x.outs.map a6).length:Int)==2) with
             | true=>
              obtain⟨asY,GV⟩:=cS (xs:=x.outs) (i:=0) (by grind[aq,aJ]);obtain⟨asZ,GX⟩:=cS (xs:=x.outs) (i:=1) (by grind[aq,aJ]);cases Fx:(asY==asZ) with
              | true=>
               rw[show aN x=false from by grind[aN,bI,bP,aq]];exact arz ⟨h1,cp,cO,cV,dp,ea,fi,fi,lZ,mL,nS,oR,vS,x7,(by grind[aq,aJ]),(by grind[aq,aJ]),(bC a6 GV),(by grind[aq,aJ]),(by grind[aq,aJ]),(bC a6 GX),Fx,aa⟩
              | false=>
               rcases gz x ak with⟨cv,l⟩ | ⟨cv,l⟩
               ·skip
                rw[show aN x=false from by grind[aN,bI,bP,aq]];exact arA ⟨h1,cp,cO,cV,dp,ea,fi,fi,lZ,mL,nS,oR,vS,x7,(by grind[aq,aJ]),(by grind[aq,aJ]),(bC a6 GV),(by grind[aq,aJ]),(by grind[aq,aJ]),(bC a6 GX),Fx,l,aa⟩
               skip
               rw[show aN x=true from by grind[aN,bI,bP,aq]];exact arB ⟨h1,cp,cO,cV,dp,ea,fi,fi,lZ,mL,nS,oR,vS,x7,(by grind[aq,aJ]),(by grind[aq,aJ]),(bC a6 GV),(by grind[aq,aJ]),(by grind[aq,aJ]),(bC a6 GX),Fx,l,aa⟩
             | false=>
              rcases gz x ak with⟨cv,l⟩ | ⟨cv,l⟩
              ·skip
               rw[show aN x=false from by grind[aN,bI,bP,aq]];exact arC ⟨h1,cp,cO,cV,dp,ea,fi,fi,lZ,mL,nS,oR,vS,x7,l,aa⟩
              skip
              rw[show aN x=true from by grind[aN,bI,bP,aq]];exact arD ⟨h1,cp,cO,cV,dp,ea,fi,fi,lZ,mL,nS,oR,vS,x7,l,aa⟩
           | false=>
            cases x8:((↑(x.outs.map a6).length:Int)==2) with
            | true=>
             obtain⟨asE,Gp⟩:=cS (xs:=x.outs) (i:=0) (by grind[aq,aJ]);obtain⟨asF,Gq⟩:=cS (xs:=x.outs) (i:=1) (by grind[aq,aJ]);cases Fk:(asE==asF) with
             | true=>
              rw[show aN x=false from by grind[aN,bI,bP,aq]];exact arE ⟨h1,cp,cO,cV,dp,ea,fi,fi,lZ,mL,nS,oR,x8,(by grind[aq,aJ]),(by grind[aq,aJ]),(bC a6 Gp),(by grind[aq,aJ]),(by grind[aq,aJ]),(bC a6 Gq),Fk,aa⟩
             | false=>
              rcases gz x ak with⟨cv,l⟩ | ⟨cv,l⟩
              ·skip
               rw[show aN x=false from by grind[aN,bI,bP,aq]];exact arF ⟨h1,cp,cO,cV,dp,ea,fi,fi,lZ,mL,nS,oR,x8,(by grind[aq,aJ]),(by grind[aq,aJ]),(bC a6 Gp),(by grind[aq,aJ]),(by grind[aq,aJ]),(bC a6 Gq),Fk,l,aa⟩
              skip
              rw[show aN x=true from by grind[aN,bI,bP,aq]];exact arG ⟨h1,cp,cO,cV,dp,ea,fi,fi,lZ,mL,nS,oR,x8,(by grind[aq,aJ]),(by grind[aq,aJ]),(bC a6 Gp),(by grind[aq,aJ]),(by grind[aq,aJ]),(bC a6 Gq),Fk,l,aa⟩
            | false=>
             rcases gz x ak with⟨cv,l⟩ | ⟨cv,l⟩
             ·skip
              rw[show aN x=false from by grind[aN,bI,bP,aq]];exact arH ⟨h1,cp,cO,cV,dp,ea,fi,fi,lZ,mL,nS,oR,x8,l,aa⟩
             skip
             rw[show aN x=true from by grind[aN,bI,bP,aq]];exact arI ⟨h1,cp,cO,cV,dp,ea,fi,fi,lZ,mL,nS,oR,x8,l,aa⟩
       | false=>
        cases kR:(x.kind==8) with
        | true=>
         cases q5:(x.a != 0) with
         | true=>
          rw[show aN x=false from by grind[aN,bI,bP,aq]];exact arJ ⟨h1,cp,cO,cV,dp,ea,fi,kR,q5,aa⟩
         | false=>
          cases sr:(x.b != 0) with
          | true=>
           rw[show aN x=false from by grind[aN,bI,bP,aq]];exact aq7 ⟨h1,cp,cO,cV,dp,ea,fi,kR,q5,sr,aa⟩
          | false=>
           cases ua:(decide ((↑(x.outs.map a6).length:Int)>2)) with
           | true=>
            rw[show aN x=false from by grind[aN,bI,bP,aq]];exact aq8 ⟨h1,cp,cO,cV,dp,ea,fi,kR,q5,sr,ua,aa⟩
           | false=>
            cases vM:(decide ((↑(x.outs.map a6).length:Int)>0)) with
            | true=>
             rw[show aN x=false from by grind[aN,bI,bP,aq]];exact aq9 ⟨h1,cp,cO,cV,dp,ea,fi,kR,q5,sr,ua,kR,vM,aa⟩
            | false=>
             cases xX:((↑(x.outs.map a6).length:Int)==2) with
             | true=>
              obtain⟨asG,Gr⟩:=cS (xs:=x.outs) (i:=0) (by grind[aq,aJ]);obtain⟨asH,Gs⟩:=cS (xs:=x.outs) (i:=1) (by grind[aq,aJ]);cases Fl:(asG==asH) with
              | true=>
               rw[show aN x=false from by grind[aN,bI,bP,aq]];exact ara ⟨h1,cp,cO,cV,dp,ea,fi,kR,q5,sr,ua,kR,vM,xX,(by grind[aq,aJ]),(by grind[aq,aJ]),(bC a6 Gr),(by grind[aq,aJ]),(by grind[aq,aJ]),(bC a6 Gs),Fl,aa⟩
              | false=>
               rcases gz x ak with⟨cv,l⟩ | ⟨cv,l⟩
               ·skip
                rw[show aN x=false from by grind[aN,bI,bP,aq]];exact arb ⟨h1,cp,cO,cV,dp,ea,fi,kR,q5,sr,ua,kR,vM,xX,(by grind[aq,aJ]),(by grind[aq,aJ]),(bC a6 Gr),(by grind[aq,aJ]),(by grind[aq,aJ]),(bC a6 Gs),Fl,l,aa⟩
               skip
               rw[show aN x=true from by grind[aN,bI,bP,aq]];exact arc ⟨h1,cp,cO,cV,dp,ea,fi,kR,q5,sr,ua,kR,vM,xX,(by grind[aq,aJ]),(by grind[aq,aJ]),(bC a6 Gr),(by grind[aq,aJ]),(by grind[aq,aJ]),(bC a6 Gs),Fl,l,aa⟩
             | false=>
              rcases gz x ak with⟨cv,l⟩ | ⟨cv,l⟩
              ·skip
               rw[show aN x=false from by grind[aN,bI,bP,aq]];exact ard ⟨h1,cp,cO,cV,dp,ea,fi,kR,q5,sr,ua,kR,vM,xX,l,aa⟩
              skip
              rw[show aN x=true from by grind[aN,bI,bP,aq]];exact arf ⟨h1,cp,cO,cV,dp,ea,fi,kR,q5,sr,ua,kR,vM,xX,l,aa⟩
        | false=>
         rw[show aN x=false from by grind[aN,bI,bP,aq]];exact arh ⟨h1,cp,cO,cV,dp,ea,fi,kR,aa⟩
