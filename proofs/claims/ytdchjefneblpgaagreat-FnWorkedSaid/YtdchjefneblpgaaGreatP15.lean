import Derived.Test.YtdchjefneblpgaaGreatQ2
import Derived.Test.YtdchjefneblpgaaGreatGQ
import Derived.Test.YtdchjefneblpgaaGreatGR
set_option linter.unusedVariables false
set_option linter.unusedSimpArgs false
namespace Go.Proofs.YtdchjefneblpgaaGreat
open Go.Sx Go.RowKit Go.Proofs.Tryz
def gT(s:gd):Bool:=aq s.bc 0 3&&aq s.dT 0 6
def eY(k v:Int):Bool:=aq k 0 99&&aq v 0 999
def eR(r:aB):Bool:=aq r.op 0 7&&gT r.bp&&eY r.key r.val
def eI(s:gd):gd×Bool:=if gT s&&decide (s.dT<6) then (⟨s.bc,s.dT+1⟩,true) else (s,false)
def less(a b:Int):Int:=if b<a then b else a
def bI(x:Node):Bool:=
 if x.kind=2 then aq x.a 0 999&&x.b==0
 else if x.kind=3 then aq x.a 1 10&&aq x.b 0 (IntKind.i64.wrap (x.a-1))
 else if x.kind=4 then aq x.a 0 99&&x.b==0
 else aq x.kind 1 8&&x.a==0&&x.b==0
def l6(l:List Int):Bool:=!(l.any fun k=>!aq k 0 7)
def bP(l:List Int):Bool:=decide (l.length=2/\l[0]?=l[1]?)
def aN(x:Node):Bool:=bI x&&decide (x.outs.length<=2)&&!(x.kind==8&&decide (0<x.outs.length))&&!bP x.outs&&l6 x.outs
theorem look{α:Type}{xs:List α}{i:Int}(b5:0<=i)(h1:i<xs.length):∃a,xs[i.toNat]?=some a:=cS (by omega)
theorem bC{α:Type}{xs:List α}{i:Nat}{a:α}(f:α->List D)(h:xs[i]?=some a):(xs.map f)[i]?=some (f a):=by simp[h]
theorem gz(x:Node)(ak:x.outs.length<=8388608):(l6 x.outs=false/\cV prog (ao f273 0) (di (x.outs.map a6) 0) .ret (fM false))\/(l6 x.outs=true/\cV prog (ao f273 0) (di (x.outs.map a6) 0) (.exit 1) fW):=by
 have l:=gy (P:=prog) (c:=(ao f273 0)) x.outs (fun k=>!aq k 0 7) (fun i=>di (x.outs.map a6) i) (X:=fun _ _=>fM false) e7 (cH 1)
  (fun i a ah h=>aqV ⟨b6 (a1 ah),bw,bE (a1 ah),bA a6 ah,jU a 0 7,h,dc (a1 ah) ak,aa⟩)
  (fun i a ah h=>aqU ⟨b6 (a1 ah),bw,bE (a1 ah),bA a6 ah,jU a 0 7,h,aa⟩)
  (aqW ⟨dz,aa⟩)
 unfold l6;rcases l with⟨_,_,h1,U⟩ | ⟨i,a,_,_,_,_,h1,U⟩
 ·exact .inr ⟨by rw[h1];rfl,U⟩
 exact .inl ⟨by rw[h1];rfl,U⟩
theorem tf(x:Node)(ak:x.outs.length<=2):((l6 x.outs&&!bP x.outs)=false/\cV prog (ao f243 0) (g' x.kind x.a x.b (x.outs.map a6) 0) .ret (pA false))\/((l6 x.outs&&!bP x.outs)=true/\cV prog (ao f243 0) (g' x.kind x.a x.b (x.outs.map a6) 0) (.exit 1) qj):=by
 obtain⟨NI,a,b,outs⟩:=x;have cl:=fun k=>hI k 0 7
 match outs,ak with
 | [],_=>exact .inr ⟨rfl,.last (cH 1) (J9 ⟨rfl,aa⟩)⟩
 | [k],_=>
  cases h1:aq k 0 7 with
  | false=>exact .inl ⟨by simp[l6,h1],.last e7 (J8 ⟨rfl,by omega,by simp,rfl,cl k,by rw[h1];rfl,aa⟩)⟩
  | true=>
   refine .inr ⟨by simp[l6,bP,h1],.more (Qv ⟨rfl,by omega,by simp,rfl,cl k,by rw[h1];rfl,rfl,⟨by omega,by omega⟩,aa⟩) (.last (cH 1) (J9 ⟨rfl,aa⟩))⟩
 | [k,m],_=>
  cases h1:aq k 0 7 with
  | false=>exact .inl ⟨by simp[l6,h1],.last e7 (J8 ⟨rfl,by omega,by simp,rfl,cl k,by rw[h1];rfl,aa⟩)⟩
  | true=>
   have first:gf prog (ao f243 0) (g' NI a b ([k,m].map a6) 0) .normal (g' NI a b ([k,m].map a6) (0+1)):=Qv ⟨rfl,by omega,by simp,rfl,cl k,by rw[h1];rfl,rfl,⟨by omega,by omega⟩,aa⟩
   cases U:aq m 0 7 with
   | false=>exact .inl ⟨by simp[l6,h1,U],.more first (.last e7 (J8 ⟨rfl,by omega,by simp,rfl,cl m,by rw[U];rfl,aa⟩))⟩
   | true=>
    cases ax:(k==m) with
    | true=>exact .inl ⟨by simp[l6,bP,h1,U]at ax ⊢;exact ax,.more first (.last e7 (aps ⟨rfl,by omega,by simp,rfl,cl m,by rw[U];rfl,rfl,by omega,by simp,rfl,by omega,by simp,rfl,ax,aa⟩))⟩
    | false=>exact .inr ⟨by simp[l6,bP,h1,U]at ax ⊢;exact ax,.more first (.more (apt ⟨rfl,by omega,by simp,rfl,cl m,by rw[U];rfl,rfl,by omega,by simp,rfl,by omega,by simp,rfl,ax,⟨by omega,by omega⟩,aa⟩) (.last (cH 1) (J9 ⟨rfl,aa⟩)))⟩
theorem Qw(s:gd):ar 244 [.agg s.e] [.one (B (gT s))]:=by
 have c1:=hI s.bc 0 3;cases U:(aq s.bc 0 3) with
 | true=>
  have cu:=hI s.dT 0 6;rw[show gT s=aq s.dT 0 6 from by grind[gT]];exact apM ⟨c1,U,cu,aa⟩
 | false=>
  rw[show gT s=false from by grind[gT]];exact apN ⟨c1,U,aa⟩
theorem Qx(s:gd):ar 274 [.agg s.e] [.one (B (gT s))]:=by
 have c1:=jU s.bc 0 3;cases U:(aq s.bc 0 3) with
 | true=>
  have cu:=jU s.dT 0 6;rw[show gT s=aq s.dT 0 6 from by grind[gT]];exact apO ⟨c1,U,cu,aa⟩
 | false=>
  rw[show gT s=false from by grind[gT]];exact apP ⟨c1,U,aa⟩
theorem Qy(k v:Int):ar 275 [.one (I k),.one (I v)] [.one (B (eY k v))]:=by
 have c1:=jU k 0 99;cases U:(aq k 0 99) with
 | true=>
  have cu:=jU v 0 999;rw[show eY k v=aq v 0 999 from by grind[eY]];exact apk ⟨c1,U,cu,aa⟩
 | false=>
  rw[show eY k v=false from by grind[eY]];exact apl ⟨c1,U,aa⟩
theorem rT(r:aB):ar 122 [.agg r.e] [.one (B (eR r))]:=by
 have c1:=hI r.op 0 7;cases U:(aq r.op 0 7) with
 | true=>
  have cu:=Qw r.bp;cases aJ:(gT r.bp) with
  | true=>
   have fJ:=hI r.key 0 99;cases bx:(aq r.key 0 99) with
   | true=>
    have E5:=hI r.val 0 999;rw[show eR r=aq r.val 0 999 from by grind[eR,eY]];exact apF ⟨c1,U,cu,aJ,fJ,bx,E5,aa⟩
   | false=>
    rw[show eR r=false from by grind[eR,eY]];exact apG ⟨c1,U,cu,aJ,fJ,bx,aa⟩
  | false=>
   rw[show eR r=false from by grind[eR,eY]];exact apH ⟨c1,U,cu,aJ,aa⟩
 | false=>
  rw[show eR r=false from by grind[eR,eY]];exact apI ⟨c1,U,aa⟩
theorem uM(r:aB):ar 180 [.agg r.e] [.one (B (eR r))]:=by
 have c1:=jU r.op 0 7;cases U:(aq r.op 0 7) with
 | true=>
  have cu:=Qx r.bp;cases aJ:(gT r.bp) with
  | true=>
   have fJ:=Qy r.key r.val;rw[show eR r=eY r.key r.val from by grind[eR,eY]];exact apJ ⟨c1,U,cu,aJ,fJ,aa⟩
  | false=>
   rw[show eR r=false from by grind[eR,eY]];exact apK ⟨c1,U,cu,aJ,aa⟩
 | false=>
  rw[show eR r=false from by grind[eR,eY]];exact apL ⟨c1,U,aa⟩
theorem w6(s:gd):ar 270 [.agg s.e] [.agg ((eI s).1).e,.one (B ((eI s).2))]:=by
 have c1:=Qw s;cases U:(gT s) with
 | true=>
  cases ax:(decide (s.dT>=6)) with
  | true=>
   rw[show eI s=(s,false) from by grind[eI,gT,aq]];exact apR ⟨c1,(by rw[U];rfl),ax,aa⟩
  | false=>
   rw[show eI s=((⟨s.bc,s.dT+1⟩:gd),true) from by grind[eI,gT,aq]];exact apS ⟨c1,(by rw[U];rfl),ax,(by grind[gT,aq,aI]),aa⟩
 | false=>
  rw[show eI s=(s,false) from by grind[eI,gT,aq]];exact apQ ⟨c1,(by rw[U];rfl),aa⟩
theorem J'(s:gd):ar 300 [.agg s.e] [.agg ((eI s).1).e,.one (B ((eI s).2))]:=by
 have c1:=Qx s;cases U:(gT s) with
 | true=>
  cases ax:(s.dT==6) with
  | true=>
   rw[show eI s=(s,false) from by grind[eI,gT,aq]];exact apU ⟨c1,(by rw[U];rfl),ax,aa⟩
  | false=>
   rw[show eI s=((⟨s.bc,s.dT+1⟩:gd),true) from by grind[eI,gT,aq]];exact apV ⟨c1,(by rw[U];rfl),ax,(by grind[gT,aq,aI]),aa⟩
 | false=>
  rw[show eI s=(s,false) from by grind[eI,gT,aq]];exact apT ⟨c1,(by rw[U];rfl),aa⟩
theorem arc(a b:Int):ar 323 [.one (I a),.one (I b)] [.one (I (less a b))]:=by
 cases h1:(decide (b<a)) with
 | true=>
  rw[show less a b=b from by grind[less]];exact api ⟨h1,aa⟩
 | false=>
  rw[show less a b=a from by grind[less]];exact apj ⟨h1,aa⟩
theorem Qz(x:Node)(ak:x.outs.length<=8388608):ar 243 [.agg x.e] [.one (B (aN x))]:=by
 cases h1:(x.kind==2) with
 | true=>
  have c2:=hI x.a 0 999;have cu:=hI x.kind 1 8;cases aJ:(aq x.kind 1 8) with
  | true=>
   cases aY:(aq x.a 0 999) with
   | true=>
    cases bx:(x.b==0) with
    | true=>
     cases bN:(decide ((↑(x.outs.map a6).length:Int)>2)) with
     | true=>
      rw[show aN x=false from by grind[aN,bI,bP,aq]];exact apq ⟨h1,c2,cu,(by rw[aJ];rfl),(by rw[aY];rfl),(by rw[bx];rfl),bN,aa⟩
     | false=>
      cases db:(x.kind==8) with
      | true=>
       cases dQ:(decide ((↑(x.outs.map a6).length:Int)>0)) with
       | true=>
        rw[show aN x=false from by grind[aN,bI,bP,aq]];exact apr ⟨h1,c2,cu,(by rw[aJ];rfl),(by rw[aY];rfl),(by rw[bx];rfl),bN,db,dQ,aa⟩
       | false=>
        rcases tf x (by grind) with⟨cv,l⟩ | ⟨cv,l⟩
        ·skip
         rw[show aN x=false from by grind[aN,bI,bP,aq]];exact apu ⟨h1,c2,cu,(by rw[aJ];rfl),(by rw[aY];rfl),(by rw[bx];rfl),bN,db,dQ,l,aa⟩
        skip
        rw[show aN x=true from by grind[aN,bI,bP,aq]];exact apv ⟨h1,c2,cu,(by rw[aJ];rfl),(by rw[aY];rfl),(by rw[bx];rfl),bN,db,dQ,l,aa⟩
      | false=>
       rcases tf x (by grind) with⟨cv,l⟩ | ⟨cv,l⟩
       ·skip
        rw[show aN x=false from by grind[aN,bI,bP,aq]];exact apw ⟨h1,c2,cu,(by rw[aJ];rfl),(by rw[aY];rfl),(by rw[bx];rfl),bN,db,l,aa⟩
       skip
       rw[show aN x=true from by grind[aN,bI,bP,aq]];exact apx ⟨h1,c2,cu,(by rw[aJ];rfl),(by rw[aY];rfl),(by rw[bx];rfl),bN,db,l,aa⟩
    | false=>
     rw[show aN x=false from by grind[aN,bI,bP,aq]];exact apo ⟨h1,c2,cu,(by rw[aJ];rfl),(by rw[aY];rfl),(by rw[bx];rfl),aa⟩
   | false=>
    rw[show aN x=false from by grind[aN,bI,bP,aq]];exact apn ⟨h1,c2,cu,(by rw[aJ];rfl),(by rw[aY];rfl),aa⟩
  | false=>
   rw[show aN x=false from by grind[aN,bI,bP,aq]];exact apm ⟨h1,c2,cu,(by rw[aJ];rfl),aa⟩
 | false=>
  cases dy:(x.kind==3) with
  | true=>
   have oG:=hI x.a 1 10;have mC:=hI x.b 0 (IntKind.i64.wrap (x.a-1));have lN:=hI x.kind 1 8;cases kl:(aq x.kind 1 8) with
   | true=>
    cases iJ:(aq x.a 1 10) with
    | true=>
     cases cp:(aq x.b 0 (IntKind.i64.wrap (x.a-1))) with
     | true=>
      cases pY:(decide ((↑(x.outs.map a6).length:Int)>2)) with
      | true=>
       rw[show aN x=false from by grind[aN,bI,bP,aq]];exact apB ⟨h1,dy,oG,mC,lN,(by rw[kl];rfl),(by rw[iJ];rfl),(by rw[cp];rfl),pY,aa⟩
      | false=>
       cases gq:(x.kind==8) with
       | true=>
        cases Fl:(decide ((↑(x.outs.map a6).length:Int)>0)) with
        | true=>
         rw[show aN x=false from by grind[aN,bI,bP,aq]];exact apC ⟨h1,dy,oG,mC,lN,(by rw[kl];rfl),(by rw[iJ];rfl),(by rw[cp];rfl),pY,gq,Fl,aa⟩
        | false=>
         rcases tf x (by grind) with⟨cv,l⟩ | ⟨cv,l⟩
         ·skip
          rw[show aN x=false from by grind[aN,bI,bP,aq]];exact ao2 ⟨h1,dy,oG,mC,lN,(by rw[kl];rfl),(by rw[iJ];rfl),(by rw[cp];rfl),pY,gq,Fl,l,aa⟩
         skip
         rw[show aN x=true from by grind[aN,bI,bP,aq]];exact ao3 ⟨h1,dy,oG,mC,lN,(by rw[kl];rfl),(by rw[iJ];rfl),(by rw[cp];rfl),pY,gq,Fl,l,aa⟩
       | false=>
        rcases tf x (by grind) with⟨cv,l⟩ | ⟨cv,l⟩
        ·skip
         rw[show aN x=false from by grind[aN,bI,bP,aq]];exact ao4 ⟨h1,dy,oG,mC,lN,(by rw[kl];rfl),(by rw[iJ];rfl),(by rw[cp];rfl),pY,gq,l,aa⟩
        skip
        rw[show aN x=true from by grind[aN,bI,bP,aq]];exact ao5 ⟨h1,dy,oG,mC,lN,(by rw[kl];rfl),(by rw[iJ];rfl),(by rw[cp];rfl),pY,gq,l,aa⟩
     | false=>
      rw[show aN x=false from by grind[aN,bI,bP,aq]];exact apA ⟨h1,dy,oG,mC,lN,(by rw[kl];rfl),(by rw[iJ];rfl),(by rw[cp];rfl),aa⟩
    | false=>
     rw[show aN x=false from by grind[aN,bI,bP,aq]];exact apz ⟨h1,dy,oG,mC,lN,(by rw[kl];rfl),(by rw[iJ];rfl),aa⟩
   | false=>
    rw[show aN x=false from by grind[aN,bI,bP,aq]];exact apy ⟨h1,dy,oG,mC,lN,(by rw[kl];rfl),aa⟩
  | false=>
   cases eM:(x.kind==4) with
   | true=>
    have lO:=hI x.a 0 99;have qV:=hI x.kind 1 8;cases jd:(aq x.kind 1 8) with
    | true=>
     cases lS:(aq x.a 0 99) with
     | true=>
      cases oL:(x.b==0) with
      | true=>
       cases oM:(decide ((↑(x.outs.map a6).length:Int)>2)) with
       | true=>
        rw[show aN x=false from by grind[aN,bI,bP,aq]];exact ao9 ⟨h1,dy,eM,lO,qV,(by rw[jd];rfl),(by rw[lS];rfl),(by rw[oL];rfl),oM,aa⟩
       | false=>
        cases q6:(x.kind==8) with
        | true=>
         cases mG:(decide ((↑(x.outs.map a6).length:Int)>0)) with
         | true=>
          rw[show aN x=false from by grind[aN,bI,bP,aq]];exact apa ⟨h1,dy,eM,lO,qV,(by rw[jd];rfl),(by rw[lS];rfl),(by rw[oL];rfl),oM,q6,mG,aa⟩
         | false=>
          rcases tf x (by grind) with⟨cv,l⟩ | ⟨cv,l⟩
          ·skip
           rw[show aN x=false from by grind[aN,bI,bP,aq]];exact apb ⟨h1,dy,eM,lO,qV,(by rw[jd];rfl),(by rw[lS];rfl),(by rw[oL];rfl),oM,q6,mG,l,aa⟩
          skip
          rw[show aN x=true from by grind[aN,bI,bP,aq]];exact aqD ⟨h1,dy,eM,lO,qV,(by rw[jd];rfl),(by rw[lS];rfl),(by rw[oL];rfl),oM,q6,mG,l,aa⟩
        | false=>
         rcases tf x (by grind) with⟨cv,l⟩ | ⟨cv,l⟩
         ·skip
          rw[show aN x=false from by grind[aN,bI,bP,aq]];exact aqE ⟨h1,dy,eM,lO,qV,(by rw[jd];rfl),(by rw[lS];rfl),(by rw[oL];rfl),oM,q6,l,aa⟩
         skip
         rw[show aN x=true from by grind[aN,bI,bP,aq]];exact aqF ⟨h1,dy,eM,lO,qV,(by rw[jd];rfl),(by rw[lS];rfl),(by rw[oL];rfl),oM,q6,l,aa⟩
      | false=>
       rw[show aN x=false from by grind[aN,bI,bP,aq]];exact ao8 ⟨h1,dy,eM,lO,qV,(by rw[jd];rfl),(by rw[lS];rfl),(by rw[oL];rfl),aa⟩
     | false=>
      rw[show aN x=false from by grind[aN,bI,bP,aq]];exact ao7 ⟨h1,dy,eM,lO,qV,(by rw[jd];rfl),(by rw[lS];rfl),aa⟩
    | false=>
     rw[show aN x=false from by grind[aN,bI,bP,aq]];exact ao6 ⟨h1,dy,eM,lO,qV,(by rw[jd];rfl),aa⟩
   | false=>
    have qW:=hI x.kind 1 8;cases q7:(aq x.kind 1 8) with
    | true=>
     cases nM:(x.a==0) with
     | true=>
      cases cO:(x.b==0) with
      | true=>
       cases vL:(decide ((↑(x.outs.map a6).length:Int)>2)) with
       | true=>
        rw[show aN x=false from by grind[aN,bI,bP,aq]];exact aqJ ⟨h1,dy,eM,qW,(by rw[q7];rfl),(by rw[nM];rfl),(by rw[cO];rfl),vL,aa⟩
       | false=>
        cases jy:(x.kind==8) with
        | true=>
         cases kn:(decide ((↑(x.outs.map a6).length:Int)>0)) with
         | true=>
          rw[show aN x=false from by grind[aN,bI,bP,aq]];exact aqK ⟨h1,dy,eM,qW,(by rw[q7];rfl),(by rw[nM];rfl),(by rw[cO];rfl),vL,jy,kn,aa⟩
         | false=>
          rcases tf x (by grind) with⟨cv,l⟩ | ⟨cv,l⟩
          ·skip
           rw[show aN x=false from by grind[aN,bI,bP,aq]];exact aqL ⟨h1,dy,eM,qW,(by rw[q7];rfl),(by rw[nM];rfl),(by rw[cO];rfl),vL,jy,kn,l,aa⟩
          skip
          rw[show aN x=true from by grind[aN,bI,bP,aq]];exact aqM ⟨h1,dy,eM,qW,(by rw[q7];rfl),(by rw[nM];rfl),(by rw[cO];rfl),vL,jy,kn,l,aa⟩
        | false=>
         rcases tf x (by grind) with⟨cv,l⟩ | ⟨cv,l⟩
         ·skip
          rw[show aN x=false from by grind[aN,bI,bP,aq]];exact aqN ⟨h1,dy,eM,qW,(by rw[q7];rfl),(by rw[nM];rfl),(by rw[cO];rfl),vL,jy,l,aa⟩
         skip
         rw[show aN x=true from by grind[aN,bI,bP,aq]];exact aqO ⟨h1,dy,eM,qW,(by rw[q7];rfl),(by rw[nM];rfl),(by rw[cO];rfl),vL,jy,l,aa⟩
      | false=>
       rw[show aN x=false from by grind[aN,bI,bP,aq]];exact aqI ⟨h1,dy,eM,qW,(by rw[q7];rfl),(by rw[nM];rfl),(by rw[cO];rfl),aa⟩
     | false=>
      rw[show aN x=false from by grind[aN,bI,bP,aq]];exact aqH ⟨h1,dy,eM,qW,(by rw[q7];rfl),(by rw[nM];rfl),aa⟩
    | false=>
     rw[show aN x=false from by grind[aN,bI,bP,aq]];exact aqG ⟨h1,dy,eM,qW,(by rw[q7];rfl),aa⟩
theorem QA(x:Node)(ak:x.outs.length<=8388608):ar 273 [.agg x.e] [.one (B (aN x))]:=by
 cases h1:(x.kind==2) with
 | true=>
  have c2:=jU x.a 0 999;cases ax:(aq x.a 0 999) with
  | true=>
   cases aJ:(x.b != 0) with
   | true=>
    rw[show aN x=false from by grind[aN,bI,bP,aq]];exact aqQ ⟨h1,c2,(by rw[ax];rfl),aJ,aa⟩
   | false=>
    cases aY:(decide ((↑(x.outs.map a6).length:Int)>2)) with
    | true=>
     rw[show aN x=false from by grind[aN,bI,bP,aq]];exact aqR ⟨h1,c2,(by rw[ax];rfl),aJ,aY,aa⟩
    | false=>
     cases bx:(x.kind==8) with
     | true=>
      cases bN:(decide ((↑(x.outs.map a6).length:Int)>0)) with
      | true=>
       rw[show aN x=false from by grind[aN,bI,bP,aq]];exact aqS ⟨h1,c2,(by rw[ax];rfl),aJ,aY,bx,bN,aa⟩
      | false=>
       cases db:((↑(x.outs.map a6).length:Int)==2) with
       | true=>
        obtain⟨EE,rr⟩:=cS (xs:=x.outs) (i:=0) (by grind[aq,aI]);obtain⟨Ef,Gm⟩:=cS (xs:=x.outs) (i:=1) (by grind[aq,aI]);cases hj:(EE==Ef) with
        | true=>
         rw[show aN x=false from by grind[aN,bI,bP,aq]];exact aqT ⟨h1,c2,(by rw[ax];rfl),aJ,aY,bx,bN,db,(by grind[aq,aI]),(by grind[aq,aI]),(bC a6 rr),(by grind[aq,aI]),(by grind[aq,aI]),(bC a6 Gm),hj,aa⟩
        | false=>
         rcases gz x ak with⟨cv,l⟩ | ⟨cv,l⟩
         ·skip
          rw[show aN x=false from by grind[aN,bI,bP,aq]];exact aqX ⟨h1,c2,(by rw[ax];rfl),aJ,aY,bx,bN,db,(by grind[aq,aI]),(by grind[aq,aI]),(bC a6 rr),(by grind[aq,aI]),(by grind[aq,aI]),(bC a6 Gm),hj,l,aa⟩
         skip
         rw[show aN x=true from by grind[aN,bI,bP,aq]];exact aqY ⟨h1,c2,(by rw[ax];rfl),aJ,aY,bx,bN,db,(by grind[aq,aI]),(by grind[aq,aI]),(bC a6 rr),(by grind[aq,aI]),(by grind[aq,aI]),(bC a6 Gm),hj,l,aa⟩
       | false=>
        rcases gz x ak with⟨cv,l⟩ | ⟨cv,l⟩
        ·skip
         rw[show aN x=false from by grind[aN,bI,bP,aq]];exact aqZ ⟨h1,c2,(by rw[ax];rfl),aJ,aY,bx,bN,db,l,aa⟩
        skip
        rw[show aN x=true from by grind[aN,bI,bP,aq]];exact aq0 ⟨h1,c2,(by rw[ax];rfl),aJ,aY,bx,bN,db,l,aa⟩
     | false=>
      cases hB:((↑(x.outs.map a6).length:Int)==2) with
      | true=>
       obtain⟨AA,Gs⟩:=cS (xs:=x.outs) (i:=0) (by grind[aq,aI]);obtain⟨AB,Gt⟩:=cS (xs:=x.outs) (i:=1) (by grind[aq,aI]);cases iJ:(AA==AB) with
       | true=>
        rw[show aN x=false from by grind[aN,bI,bP,aq]];exact aq1 ⟨h1,c2,(by rw[ax];rfl),aJ,aY,bx,hB,(by grind[aq,aI]),(by grind[aq,aI]),(bC a6 Gs),(by grind[aq,aI]),(by grind[aq,aI]),(bC a6 Gt),iJ,aa⟩
       | false=>
        rcases gz x ak with⟨cv,l⟩ | ⟨cv,l⟩
        ·skip
         rw[show aN x=false from by grind[aN,bI,bP,aq]];exact aq2 ⟨h1,c2,(by rw[ax];rfl),aJ,aY,bx,hB,(by grind[aq,aI]),(by grind[aq,aI]),(bC a6 Gs),(by grind[aq,aI]),(by grind[aq,aI]),(bC a6 Gt),iJ,l,aa⟩
        skip
        rw[show aN x=true from by grind[aN,bI,bP,aq]];exact aqd ⟨h1,c2,(by rw[ax];rfl),aJ,aY,bx,hB,(by grind[aq,aI]),(by grind[aq,aI]),(bC a6 Gs),(by grind[aq,aI]),(by grind[aq,aI]),(bC a6 Gt),iJ,l,aa⟩
      | false=>
       rcases gz x ak with⟨cv,l⟩ | ⟨cv,l⟩
       ·skip
        rw[show aN x=false from by grind[aN,bI,bP,aq]];exact aqe ⟨h1,c2,(by rw[ax];rfl),aJ,aY,bx,hB,l,aa⟩
       skip
       rw[show aN x=true from by grind[aN,bI,bP,aq]];exact aqf ⟨h1,c2,(by rw[ax];rfl),aJ,aY,bx,hB,l,aa⟩
  | false=>
   rw[show aN x=false from by grind[aN,bI,bP,aq]];exact aqP ⟨h1,c2,(by rw[ax];rfl),aa⟩
 | false=>
  cases cp:(x.kind==3) with
  | true=>
   have kM:=jU x.a 1 10;cases gq:(aq x.a 1 10) with
   | true=>
    have ia:=jU x.b 0 (IntKind.i64.wrap (x.a-1));cases eM:(aq x.b 0 (IntKind.i64.wrap (x.a-1))) with
    | true=>
     cases nL:(decide ((↑(x.outs.map a6).length:Int)>2)) with
     | true=>
      rw[show aN x=false from by grind[aN,bI,bP,aq]];exact aqi ⟨h1,cp,kM,(by rw[gq];rfl),ia,(by rw[eM];rfl),nL,aa⟩
     | false=>
      cases km:(x.kind==8) with
      | true=>
       cases jd:(decide ((↑(x.outs.map a6).length:Int)>0)) with
       | true=>
        rw[show aN x=false from by grind[aN,bI,bP,aq]];exact aqj ⟨h1,cp,kM,(by rw[gq];rfl),ia,(by rw[eM];rfl),nL,km,jd,aa⟩
       | false=>
        cases lS:((↑(x.outs.map a6).length:Int)==2) with
        | true=>
         obtain⟨Ej,Gu⟩:=cS (xs:=x.outs) (i:=0) (by grind[aq,aI]);obtain⟨Ek,Gv⟩:=cS (xs:=x.outs) (i:=1) (by grind[aq,aI]);cases q6:(Ej==Ek) with
         | true=>
          rw[show aN x=false from by grind[aN,bI,bP,aq]];exact aqk ⟨h1,cp,kM,(by rw[gq];rfl),ia,(by rw[eM];rfl),nL,km,jd,lS,(by grind[aq,aI]),(by grind[aq,aI]),(bC a6 Gu),(by grind[aq,aI]),(by grind[aq,aI]),(bC a6 Gv),q6,aa⟩
         | false=>
          rcases gz x ak with⟨cv,l⟩ | ⟨cv,l⟩
          ·skip
           rw[show aN x=false from by grind[aN,bI,bP,aq]];exact aql ⟨h1,cp,kM,(by rw[gq];rfl),ia,(by rw[eM];rfl),nL,km,jd,lS,(by grind[aq,aI]),(by grind[aq,aI]),(bC a6 Gu),(by grind[aq,aI]),(by grind[aq,aI]),(bC a6 Gv),q6,l,aa⟩
          skip
          rw[show aN x=true from by grind[aN,bI,bP,aq]];exact aqm ⟨h1,cp,kM,(by rw[gq];rfl),ia,(by rw[eM];rfl),nL,km,jd,lS,(by grind[aq,aI]),(by grind[aq,aI]),(bC a6 Gu),(by grind[aq,aI]),(by grind[aq,aI]),(bC a6 Gv),q6,l,aa⟩
        | false=>
         rcases gz x ak with⟨cv,l⟩ | ⟨cv,l⟩
         ·skip
          rw[show aN x=false from by grind[aN,bI,bP,aq]];exact aqn ⟨h1,cp,kM,(by rw[gq];rfl),ia,(by rw[eM];rfl),nL,km,jd,lS,l,aa⟩
         skip
         rw[show aN x=true from by grind[aN,bI,bP,aq]];exact aqo ⟨h1,cp,kM,(by rw[gq];rfl),ia,(by rw[eM];rfl),nL,km,jd,lS,l,aa⟩
      | false=>
       cases mG:((↑(x.outs.map a6).length:Int)==2) with
       | true=>
        obtain⟨AI,Gw⟩:=cS (xs:=x.outs) (i:=0) (by grind[aq,aI]);obtain⟨Ev,Gx⟩:=cS (xs:=x.outs) (i:=1) (by grind[aq,aI]);cases nM:(AI==Ev) with
        | true=>
         rw[show aN x=false from by grind[aN,bI,bP,aq]];exact aqp ⟨h1,cp,kM,(by rw[gq];rfl),ia,(by rw[eM];rfl),nL,km,mG,(by grind[aq,aI]),(by grind[aq,aI]),(bC a6 Gw),(by grind[aq,aI]),(by grind[aq,aI]),(bC a6 Gx),nM,aa⟩
        | false=>
         rcases gz x ak with⟨cv,l⟩ | ⟨cv,l⟩
         ·skip
          rw[show aN x=false from by grind[aN,bI,bP,aq]];exact aqq ⟨h1,cp,kM,(by rw[gq];rfl),ia,(by rw[eM];rfl),nL,km,mG,(by grind[aq,aI]),(by grind[aq,aI]),(bC a6 Gw),(by grind[aq,aI]),(by grind[aq,aI]),(bC a6 Gx),nM,l,aa⟩
         skip
         rw[show aN x=true from by grind[aN,bI,bP,aq]];exact aqr ⟨h1,cp,kM,(by rw[gq];rfl),ia,(by rw[eM];rfl),nL,km,mG,(by grind[aq,aI]),(by grind[aq,aI]),(bC a6 Gw),(by grind[aq,aI]),(by grind[aq,aI]),(bC a6 Gx),nM,l,aa⟩
       | false=>
        rcases gz x ak with⟨cv,l⟩ | ⟨cv,l⟩
        ·skip
         rw[show aN x=false from by grind[aN,bI,bP,aq]];exact aqs ⟨h1,cp,kM,(by rw[gq];rfl),ia,(by rw[eM];rfl),nL,km,mG,l,aa⟩
        skip
        rw[show aN x=true from by grind[aN,bI,bP,aq]];exact aqt ⟨h1,cp,kM,(by rw[gq];rfl),ia,(by rw[eM];rfl),nL,km,mG,l,aa⟩
    | false=>
     rw[show aN x=false from by grind[aN,bI,bP,aq]];exact aqh ⟨h1,cp,kM,(by rw[gq];rfl),ia,(by rw[eM];rfl),aa⟩
   | false=>
    rw[show aN x=false from by grind[aN,bI,bP,aq]];exact aqg ⟨h1,cp,kM,(by rw[gq];rfl),aa⟩
  | false=>
   cases cO:(x.kind==4) with
   | true=>
    have lP:=jU x.a 0 99;cases jy:(aq x.a 0 99) with
    | true=>
     cases kn:(x.b != 0) with
     | true=>
      rw[show aN x=false from by grind[aN,bI,bP,aq]];exact aqv ⟨h1,cp,cO,lP,(by rw[jy];rfl),kn,aa⟩
     | false=>
      cases nN:(decide ((↑(x.outs.map a6).length:Int)>2)) with
      | true=>
       rw[show aN x=false from by grind[aN,bI,bP,aq]];exact aqw ⟨h1,cp,cO,lP,(by rw[jy];rfl),kn,nN,aa⟩
      | false=>
       cases oN:(x.kind==8) with
       | true=>
        cases vM:(decide ((↑(x.outs.map a6).length:Int)>0)) with
        | true=>
         rw[show aN x=false from by grind[aN,bI,bP,aq]];exact aqx ⟨h1,cp,cO,lP,(by rw[jy];rfl),kn,nN,oN,vM,aa⟩
        | false=>
         cases xX:((↑(x.outs.map a6).length:Int)==2) with
         | true=>
          obtain⟨asE,Gy⟩:=cS (xs:=x.outs) (i:=0) (by grind[aq,aI]);obtain⟨asF,Gz⟩:=cS (xs:=x.outs) (i:=1) (by grind[aq,aI]);cases Fm:(asE==asF) with
          | true=>
           rw[show aN x=false from by grind[aN,bI,bP,aq]];exact aqy ⟨h1,cp,cO,lP,(by rw[jy];rfl),kn,nN,oN,vM,xX,(by grind[aq,aI]),(by grind[aq,aI]),(bC a6 Gy),(by grind[aq,aI]),(by grind[aq,aI]),(bC a6 Gz),Fm,aa⟩
          | false=>
           rcases gz x ak with⟨cv,l⟩ | ⟨cv,l⟩
           ·skip
            rw[show aN x=false from by grind[aN,bI,bP,aq]];exact aqz ⟨h1,cp,cO,lP,(by rw[jy];rfl),kn,nN,oN,vM,xX,(by grind[aq,aI]),(by grind[aq,aI]),(bC a6 Gy),(by grind[aq,aI]),(by grind[aq,aI]),(bC a6 Gz),Fm,l,aa⟩
           skip
           rw[show aN x=true from by grind[aN,bI,bP,aq]];exact aqA ⟨h1,cp,cO,lP,(by rw[jy];rfl),kn,nN,oN,vM,xX,(by grind[aq,aI]),(by grind[aq,aI]),(bC a6 Gy),(by grind[aq,aI]),(by grind[aq,aI]),(bC a6 Gz),Fm,l,aa⟩
         | false=>
          rcases gz x ak with⟨cv,l⟩ | ⟨cv,l⟩
          ·skip
           rw[show aN x=false from by grind[aN,bI,bP,aq]];exact aqB ⟨h1,cp,cO,lP,(by rw[jy];rfl),kn,nN,oN,vM,xX,l,aa⟩
          skip
          rw[show aN x=true from by grind[aN,bI,bP,aq]];exact aqC ⟨h1,cp,cO,lP,(by rw[jy];rfl),kn,nN,oN,vM,xX,l,aa⟩
       | false=>
        cases xY:((↑(x.outs.map a6).length:Int)==2) with
        | true=>
         obtain⟨asG,GC⟩:=cS (xs:=x.outs) (i:=0) (by grind[aq,aI]);obtain⟨asH,GD⟩:=cS (xs:=x.outs) (i:=1) (by grind[aq,aI]);cases Fo:(asG==asH) with
         | true=>
          rw[show aN x=false from by grind[aN,bI,bP,aq]];exact ap3 ⟨h1,cp,cO,lP,(by rw[jy];rfl),kn,nN,oN,xY,(by grind[aq,aI]),(by grind[aq,aI]),(bC a6 GC),(by grind[aq,aI]),(by grind[aq,aI]),(bC a6 GD),Fo,aa⟩
         | false=>
          rcases gz x ak with⟨cv,l⟩ | ⟨cv,l⟩
          ·skip
           rw[show aN x=false from by grind[aN,bI,bP,aq]];exact ap4 ⟨h1,cp,cO,lP,(by rw[jy];rfl),kn,nN,oN,xY,(by grind[aq,aI]),(by grind[aq,aI]),(bC a6 GC),(by grind[aq,aI]),(by grind[aq,aI]),(bC a6 GD),Fo,l,aa⟩
          skip
          rw[show aN x=true from by grind[aN,bI,bP,aq]];exact ap5 ⟨h1,cp,cO,lP,(by rw[jy];rfl),kn,nN,oN,xY,(by grind[aq,aI]),(by grind[aq,aI]),(bC a6 GC),(by grind[aq,aI]),(by grind[aq,aI]),(bC a6 GD),Fo,l,aa⟩
        | false=>
         rcases gz x ak with⟨cv,l⟩ | ⟨cv,l⟩
         ·skip
          rw[show aN x=false from by grind[aN,bI,bP,aq]];exact ap6 ⟨h1,cp,cO,lP,(by rw[jy];rfl),kn,nN,oN,xY,l,aa⟩
         skip
         rw[show aN x=true from by grind[aN,bI,bP,aq]];exact ap7 ⟨h1,cp,cO,lP,(by rw[jy];rfl),kn,nN,oN,xY,l,aa⟩
    | false=>
     rw[show aN x=false from by grind[aN,bI,bP,aq]];exact aqu ⟨h1,cp,cO,lP,(by rw[jy];rfl),aa⟩
   | false=>
    cases cU:(x.kind==1) with
    | true=>
     cases lT:(x.a != 0) with
     | true=>
      rw[show aN x=false from by grind[aN,bI,bP,aq]];exact ap8 ⟨h1,cp,cO,cU,cU,lT,aa⟩
     | false=>
      cases mH:(x.b != 0) with
      | true=>
       rw[show aN x=false from by grind[aN,bI,bP,aq]];exact ap9 ⟨h1,cp,cO,cU,cU,lT,mH,aa⟩
      | false=>
       cases nO:(decide ((↑(x.outs.map a6).length:Int)>2)) with
       | true=>
        rw[show aN x=false from by grind[aN,bI,bP,aq]];exact aqa ⟨h1,cp,cO,cU,cU,lT,mH,nO,aa⟩
       | false=>
        cases oO:(x.kind==8) with
        | true=>
         cases vN:(decide ((↑(x.outs.map a6).length:Int)>0)) with
         | true=>
          rw[show aN x=false from by grind[aN,bI,bP,aq]];exact aqb ⟨h1,cp,cO,cU,cU,lT,mH,nO,oO,vN,aa⟩
         | false=>
          cases xZ:((↑(x.outs.map a6).length:Int)==2) with
          | true=>
           obtain⟨asI,GF⟩:=cS (xs:=x.outs) (i:=0) (by grind[aq,aI]);obtain⟨asJ,GG⟩:=cS (xs:=x.outs) (i:=1) (by grind[aq,aI]);cases Fp:(asI==asJ) with
           | true=>
            rw[show aN x=false from by grind[aN,bI,bP,aq]];exact aqc ⟨h1,cp,cO,cU,cU,lT,mH,nO,oO,vN,xZ,(by grind[aq,aI]),(by grind[aq,aI]),(bC a6 GF),(by grind[aq,aI]),(by grind[aq,aI]),(bC a6 GG),Fp,aa⟩
           | false=>
            rcases gz x ak with⟨cv,l⟩ | ⟨cv,l⟩
            ·skip
             rw[show aN x=false from by grind[aN,bI,bP,aq]];exact arG ⟨h1,cp,cO,cU,cU,lT,mH,nO,oO,vN,xZ,(by grind[aq,aI]),(by grind[aq,aI]),(bC a6 GF),(by grind[aq,aI]),(by grind[aq,aI]),(bC a6 GG),Fp,l,aa⟩
            skip
            rw[show aN x=true from by grind[aN,bI,bP,aq]];exact arH ⟨h1,cp,cO,cU,cU,lT,mH,nO,oO,vN,xZ,(by grind[aq,aI]),(by grind[aq,aI]),(bC a6 GF),(by grind[aq,aI]),(by grind[aq,aI]),(bC a6 GG),Fp,l,aa⟩
          | false=>
           rcases gz x ak with⟨cv,l⟩ | ⟨cv,l⟩
           ·skip
            rw[show aN x=false from by grind[aN,bI,bP,aq]];exact arI ⟨h1,cp,cO,cU,cU,lT,mH,nO,oO,vN,xZ,l,aa⟩
           skip
           rw[show aN x=true from by grind[aN,bI,bP,aq]];exact arJ ⟨h1,cp,cO,cU,cU,lT,mH,nO,oO,vN,xZ,l,aa⟩
        | false=>
         cases x0:((↑(x.outs.map a6).length:Int)==2) with
         | true=>
          obtain⟨asK,GH⟩:=cS (xs:=x.outs) (i:=0) (by grind[aq,aI]);obtain⟨asL,GI⟩:=cS (xs:=x.outs) (i:=1) (by grind[aq,aI]);cases Fq:(asK==asL) with
          | true=>
           rw[show aN x=false from by grind[aN,bI,bP,aq]];exact arK ⟨h1,cp,cO,cU,cU,lT,mH,nO,oO,x0,(by grind[aq,aI]),(by grind[aq,aI]),(bC a6 GH),(by grind[aq,aI]),(by grind[aq,aI]),(bC a6 GI),Fq,aa⟩
          | false=>
           rcases gz x ak with⟨cv,l⟩ | ⟨cv,l⟩
           ·skip
            rw[show aN x=false from by grind[aN,bI,bP,aq]];exact arL ⟨h1,cp,cO,cU,cU,lT,mH,nO,oO,x0,(by grind[aq,aI]),(by grind[aq,aI]),(bC a6 GH),(by grind[aq,aI]),(by grind[aq,aI]),(bC a6 GI),Fq,l,aa⟩
           skip
           rw[show aN x=true from by grind[aN,bI,bP,aq]];exact arM ⟨h1,cp,cO,cU,cU,lT,mH,nO,oO,x0,(by grind[aq,aI]),(by grind[aq,aI]),(bC a6 GH),(by grind[aq,aI]),(by grind[aq,aI]),(bC a6 GI),Fq,l,aa⟩
         | false=>
          rcases gz x ak with⟨cv,l⟩ | ⟨cv,l⟩
          ·skip
           rw[show aN x=false from by grind[aN,bI,bP,aq]];exact arN ⟨h1,cp,cO,cU,cU,lT,mH,nO,oO,x0,l,aa⟩
          skip
          rw[show aN x=true from by grind[aN,bI,bP,aq]];exact arO ⟨h1,cp,cO,cU,cU,lT,mH,nO,oO,x0,l,aa⟩
    | false=>
     cases dp:(x.kind==5) with
     | true=>
      cases lU:(x.a != 0) with
      | true=>
       rw[show aN x=false from by grind[aN,bI,bP,aq]];exact arP ⟨h1,cp,cO,cU,dp,dp,lU,aa⟩
      | false=>
       cases mI:(x.b != 0) with
       | true=>
        rw[show aN x=false from by grind[aN,bI,bP,aq]];exact arQ ⟨h1,cp,cO,cU,dp,dp,lU,mI,aa⟩
       | false=>
        cases nP:(decide ((↑(x.outs.map a6).length:Int)>2)) with
        | true=>
         rw[show aN x=false from by grind[aN,bI,bP,aq]];exact arR ⟨h1,cp,cO,cU,dp,dp,lU,mI,nP,aa⟩
        | false=>
         cases oP:(x.kind==8) with
         | true=>
          cases vO:(decide ((↑(x.outs.map a6).length:Int)>0)) with
          | true=>
           rw[show aN x=false from by grind[aN,bI,bP,aq]];exact arS ⟨h1,cp,cO,cU,dp,dp,lU,mI,nP,oP,vO,aa⟩
          | false=>
           cases x1:((↑(x.outs.map a6).length:Int)==2) with
           | true=>
            obtain⟨asM,GJ⟩:=cS (xs:=x.outs) (i:=0) (by grind[aq,aI]);obtain⟨asN,GK⟩:=cS (xs:=x.outs) (i:=1) (by grind[aq,aI]);cases Fs:(asM==asN) with
            | true=>
             rw[show aN x=false from by grind[aN,bI,bP,aq]];exact arT ⟨h1,cp,cO,cU,dp,dp,lU,mI,nP,oP,vO,x1,(by grind[aq,aI]),(by grind[aq,aI]),(bC a6 GJ),(by grind[aq,aI]),(by grind[aq,aI]),(bC a6 GK),Fs,aa⟩
            | false=>
             rcases gz x ak with⟨cv,l⟩ | ⟨cv,l⟩
             ·skip
              rw[show aN x=false from by grind[aN,bI,bP,aq]];exact arU ⟨h1,cp,cO,cU,dp,dp,lU,mI,nP,oP,vO,x1,(by grind[aq,aI]),(by grind[aq,aI]),(bC a6 GJ),(by grind[aq,aI]),(by grind[aq,aI]),(bC a6 GK),Fs,l,aa⟩
             skip
             rw[show aN x=true from by grind[aN,bI,bP,aq]];exact arV ⟨h1,cp,cO,cU,dp,dp,lU,mI,nP,oP,vO,x1,(by grind[aq,aI]),(by grind[aq,aI]),(bC a6 GJ),(by grind[aq,aI]),(by grind[aq,aI]),(bC a6 GK),Fs,l,aa⟩
           | false=>
            rcases gz x ak with⟨cv,l⟩ | ⟨cv,l⟩
            ·skip
             rw[show aN x=false from by grind[aN,bI,bP,aq]];exact arW ⟨h1,cp,cO,cU,dp,dp,lU,mI,nP,oP,vO,x1,l,aa⟩
            skip
            rw[show aN x=true from by grind[aN,bI,bP,aq]];exact arX ⟨h1,cp,cO,cU,dp,dp,lU,mI,nP,oP,vO,x1,l,aa⟩
         | false=>
          cases x2:((↑(x.outs.map a6).length:Int)==2) with
          | true=>
           obtain⟨asO,GL⟩:=cS (xs:=x.outs) (i:=0) (by grind[aq,aI]);obtain⟨asP,GM⟩:=cS (xs:=x.outs) (i:=1) (by grind[aq,aI]);cases Ft:(asO==asP) with
           | true=>
            rw[show aN x=false from by grind[aN,bI,bP,aq]];exact arY ⟨h1,cp,cO,cU,dp,dp,lU,mI,nP,oP,x2,(by grind[aq,aI]),(by grind[aq,aI]),(bC a6 GL),(by grind[aq,aI]),(by grind[aq,aI]),(bC a6 GM),Ft,aa⟩
           | false=>
            rcases gz x ak with⟨cv,l⟩ | ⟨cv,l⟩
            ·skip
             rw[show aN x=false from by grind[aN,bI,bP,aq]];exact arZ ⟨h1,cp,cO,cU,dp,dp,lU,mI,nP,oP,x2,(by grind[aq,aI]),(by grind[aq,aI]),(bC a6 GL),(by grind[aq,aI]),(by grind[aq,aI]),(bC a6 GM),Ft,l,aa⟩
            skip
            rw[show aN x=true from by grind[aN,bI,bP,aq]];exact ar0 ⟨h1,cp,cO,cU,dp,dp,lU,mI,nP,oP,x2,(by grind[aq,aI]),(by grind[aq,aI]),(bC a6 GL),(by grind[aq,aI]),(by grind[aq,aI]),(bC a6 GM),Ft,l,aa⟩
          | false=>
           rcases gz x ak with⟨cv,l⟩ | ⟨cv,l⟩
           ·skip
            rw[show aN x=false from by grind[aN,bI,bP,aq]];exact ar1 ⟨h1,cp,cO,cU,dp,dp,lU,mI,nP,oP,x2,l,aa⟩
           skip
           rw[show aN x=true from by grind[aN,bI,bP,aq]];exact ar2 ⟨h1,cp,cO,cU,dp,dp,lU,mI,nP,oP,x2,l,aa⟩
     | false=>
      cases ea:(x.kind==6) with
      | true=>
       cases lV:(x.a != 0) with
       | true=>
        rw[show aN x=false from by grind[aN,bI,bP,aq]];exact ar3 ⟨h1,cp,cO,cU,dp,ea,ea,lV,aa⟩
       | false=>
        cases mJ:(x.b != 0) with
        | true=>
         rw[show aN x=false from by grind[aN,bI,bP,aq]];exact ar4 ⟨h1,cp,cO,cU,dp,ea,ea,lV,mJ,aa⟩
        | false=>
         cases nQ:(decide ((↑(x.outs.map a6).length:Int)>2)) with
         | true=>
          rw[show aN x=false from by grind[aN,bI,bP,aq]];exact ar5 ⟨h1,cp,cO,cU,dp,ea,ea,lV,mJ,nQ,aa⟩
         | false=>
          cases oQ:(x.kind==8) with
          | true=>
           cases vP:(decide ((↑(x.outs.map a6).length:Int)>0)) with
           | true=>
            rw[show aN x=false from by grind[aN,bI,bP,aq]];exact ard ⟨h1,cp,cO,cU,dp,ea,ea,lV,mJ,nQ,oQ,vP,aa⟩
           | false=>
            cases x3:((↑(x.outs.map a6).length:Int)==2) with
            | true=>
             obtain⟨asQ,GN⟩:=cS (xs:=x.outs) (i:=0) (by grind[aq,aI]);obtain⟨asR,GO⟩:=cS (xs:=x.outs) (i:=1) (by grind[aq,aI]);cases Fu:(asQ==asR) with
             | true=>
              rw[show aN x=false from by grind[aN,bI,bP,aq]];exact arf ⟨h1,cp,cO,cU,dp,ea,ea,lV,mJ,nQ,oQ,vP,x3,(by grind[aq,aI]),(by grind[aq,aI]),(bC a6 GN),(by grind[aq,aI]),(by grind[aq,aI]),(bC a6 GO),Fu,aa⟩
             | false=>
              rcases gz x ak with⟨cv,l⟩ | ⟨cv,l⟩
              ·skip
               rw[show aN x=false from by grind[aN,bI,bP,aq]];exact arh ⟨h1,cp,cO,cU,dp,ea,ea,lV,mJ,nQ,oQ,vP,x3,(by grind[aq,aI]),(by grind[aq,aI]),(bC a6 GN),(by grind[aq,aI]),(by grind[aq,aI]),(bC a6 GO),Fu,l,aa⟩
              skip
              rw[show aN x=true from by grind[aN,bI,bP,aq]];exact ari ⟨h1,cp,cO,cU,dp,ea,ea,lV,mJ,nQ,oQ,vP,x3,(by grind[aq,aI]),(by grind[aq,aI]),(bC a6 GN),(by grind[aq,aI]),(by grind[aq,aI]),(bC a6 GO),Fu,l,aa⟩
            | false=>
             rcases gz x ak with⟨cv,l⟩ | ⟨cv,l⟩
             ·skip
              rw[show aN x=false from by grind[aN,bI,bP,aq]];exact arj ⟨h1,cp,cO,cU,dp,ea,ea,lV,mJ,nQ,oQ,vP,x3,l,aa⟩
             skip
             rw[show aN x=true from by grind[aN,bI,bP,aq]];exact ark ⟨h1,cp,cO,cU,dp,ea,ea,lV,mJ,nQ,oQ,vP,x3,l,aa⟩
          | false=>
           cases x4:((↑(x.outs.map a6).length:Int)==2) with
           | true=>
            obtain⟨asS,GQ⟩:=cS (xs:=x.outs) (i:=0) (by grind[aq,aI]);obtain⟨asT,GR⟩:=cS (xs:=x.outs) (i:=1) (by grind[aq,aI]);cases Fv:(asS==asT) with
            | true=>
             rw[show aN x=false from by grind[aN,bI,bP,aq]];exact arl ⟨h1,cp,cO,cU,dp,ea,ea,lV,mJ,nQ,oQ,x4,(by grind[aq,aI]),(by grind[aq,aI]),(bC a6 GQ),(by grind[aq,aI]),(by grind[aq,aI]),(bC a6 GR),Fv,aa⟩
            | false=>
             rcases gz x ak with⟨cv,l⟩ | ⟨cv,l⟩
             ·skip
              rw[show aN x=false from by grind[aN,bI,bP,aq]];exact arm ⟨h1,cp,cO,cU,dp,ea,ea,lV,mJ,nQ,oQ,x4,(by grind[aq,aI]),(by grind[aq,aI]),(bC a6 GQ),(by grind[aq,aI]),(by grind[aq,aI]),(bC a6 GR),Fv,l,aa⟩
             skip
             rw[show aN x=true from by grind[aN,bI,bP,aq]];exact arn ⟨h1,cp,cO,cU,dp,ea,ea,lV,mJ,nQ,oQ,x4,(by grind[aq,aI]),(by grind[aq,aI]),(bC a6 GQ),(by grind[aq,aI]),(by grind[aq,aI]),(bC a6 GR),Fv,l,aa⟩
           | false=>
            rcases gz x ak with⟨cv,l⟩ | ⟨cv,l⟩
            ·skip
             rw[show aN x=false from by grind[aN,bI,bP,aq]];exact aro ⟨h1,cp,cO,cU,dp,ea,ea,lV,mJ,nQ,oQ,x4,l,aa⟩
            skip
            rw[show aN x=true from by grind[aN,bI,bP,aq]];exact arp ⟨h1,cp,cO,cU,dp,ea,ea,lV,mJ,nQ,oQ,x4,l,aa⟩
      | false=>
       cases fi:(x.kind==7) with
       | true=>
        cases lW:(x.a != 0) with
        | true=>
         rw[show aN x=false from by grind[aN,bI,bP,aq]];exact arq ⟨h1,cp,cO,cU,dp,ea,fi,fi,lW,aa⟩
        | false=>
         cases mK:(x.b != 0) with
         | true=>
          rw[show aN x=false from by grind[aN,bI,bP,aq]];exact ars ⟨h1,cp,cO,cU,dp,ea,fi,fi,lW,mK,aa⟩
         | false=>
          cases nR:(decide ((↑(x.outs.map a6).length:Int)>2)) with
          | true=>
           rw[show aN x=false from by grind[aN,bI,bP,aq]];exact art ⟨h1,cp,cO,cU,dp,ea,fi,fi,lW,mK,nR,aa⟩
          | false=>
           cases oR:(x.kind==8) with
           | true=>
            cases vQ:(decide ((↑(x.outs.map a6).length:Int)>0)) with
            | true=>
             rw[show aN x=false from by grind[aN,bI,bP,aq]];exact aru ⟨h1,cp,cO,cU,dp,ea,fi,fi,lW,mK,nR,oR,vQ,aa⟩
            | false=>
             cases x5:((↑(x.outs.map a6).length:Int)==2) with
             | true=>
              obtain⟨asU,GU⟩:=cS (xs:=x.outs) (i:=0) (by grind[aq,aI]);obtain⟨asV,GV⟩:=cS (xs:=x.outs) (i:=1) (by grind[aq,aI]);cases Fw:(asU==asV) with
              | true=>
               rw[show aN x=false from by grind[aN,bI,bP,aq]];exact arv ⟨h1,cp,cO,cU,dp,ea,fi,fi,lW,mK,nR,oR,vQ,x5,(by grind[aq,aI]),(by grind[aq,aI]),(bC a6 GU),(by grind[aq,aI]),(by grind[aq,aI]),(bC a6 GV),Fw,aa⟩
              | false=>
               rcases gz x ak with⟨cv,l⟩ | ⟨cv,l⟩
               ·skip
                rw[show aN x=false from by grind[aN,bI,bP,aq]];exact arw ⟨h1,cp,cO,cU,dp,ea,fi,fi,lW,mK,nR,oR,vQ,x5,(by grind[aq,aI]),(by grind[aq,aI]),(bC a6 GU),(by grind[aq,aI]),(by grind[aq,aI]),(bC a6 GV),Fw,l,aa⟩
               skip
               rw[show aN x=true from by grind[aN,bI,bP,aq]];exact arx ⟨h1,cp,cO,cU,dp,ea,fi,fi,lW,mK,nR,oR,vQ,x5,(by grind[aq,aI]),(by grind[aq,aI]),(bC a6 GU),(by grind[aq,aI]),(by grind[aq,aI]),(bC a6 GV),Fw,l,aa⟩
             | false=>
              rcases gz x ak with⟨cv,l⟩ | ⟨cv,l⟩
              ·skip
               rw[show aN x=false from by grind[aN,bI,bP,aq]];exact ary ⟨h1,cp,cO,cU,dp,ea,fi,fi,lW,mK,nR,oR,vQ,x5,l,aa⟩
              skip
              rw[show aN x=true from by grind[aN,bI,bP,aq]];exact arz ⟨h1,cp,cO,cU,dp,ea,fi,fi,lW,mK,nR,oR,vQ,x5,l,aa⟩
           | false=>
            cases x6:((↑(x.outs.map a6).length:Int)==2) with
            | true=>
             obtain⟨asA,Gn⟩:=cS (xs:=x.outs) (i:=0) (by grind[aq,aI]);obtain⟨asB,Gp⟩:=cS (xs:=x.outs) (i:=1) (by grind[aq,aI]);cases Fj:(asA==asB) with
             | true=>
              rw[show aN x=false from by grind[aN,bI,bP,aq]];exact arA ⟨h1,cp,cO,cU,dp,ea,fi,fi,lW,mK,nR,oR,x6,(by grind[aq,aI]),(by grind[aq,aI]),(bC a6 Gn),(by grind[aq,aI]),(by grind[aq,aI]),(bC a6 Gp),Fj,aa⟩
             | false=>
              rcases gz x ak with⟨cv,l⟩ | ⟨cv,l⟩
              ·skip
               rw[show aN x=false from by grind[aN,bI,bP,aq]];exact arB ⟨h1,cp,cO,cU,dp,ea,fi,fi,lW,mK,nR,oR,x6,(by grind[aq,aI]),(by grind[aq,aI]),(bC a6 Gn),(by grind[aq,aI]),(by grind[aq,aI]),(bC a6 Gp),Fj,l,aa⟩
              skip
              rw[show aN x=true from by grind[aN,bI,bP,aq]];exact arC ⟨h1,cp,cO,cU,dp,ea,fi,fi,lW,mK,nR,oR,x6,(by grind[aq,aI]),(by grind[aq,aI]),(bC a6 Gn),(by grind[aq,aI]),(by grind[aq,aI]),(bC a6 Gp),Fj,l,aa⟩
            | false=>
             rcases gz x ak with⟨cv,l⟩ | ⟨cv,l⟩
             ·skip
              rw[show aN x=false from by grind[aN,bI,bP,aq]];exact arD ⟨h1,cp,cO,cU,dp,ea,fi,fi,lW,mK,nR,oR,x6,l,aa⟩
             skip
             rw[show aN x=true from by grind[aN,bI,bP,aq]];exact arE ⟨h1,cp,cO,cU,dp,ea,fi,fi,lW,mK,nR,oR,x6,l,aa⟩
       | false=>
        cases kO:(x.kind==8) with
        | true=>
         cases q5:(x.a != 0) with
         | true=>
          rw[show aN x=false from by grind[aN,bI,bP,aq]];exact arF ⟨h1,cp,cO,cU,dp,ea,fi,kO,q5,aa⟩
         | false=>
          cases sr:(x.b != 0) with
          | true=>
           rw[show aN x=false from by grind[aN,bI,bP,aq]];exact aq3 ⟨h1,cp,cO,cU,dp,ea,fi,kO,q5,sr,aa⟩
          | false=>
           cases tZ:(decide ((↑(x.outs.map a6).length:Int)>2)) with
           | true=>
            rw[show aN x=false from by grind[aN,bI,bP,aq]];exact aq4 ⟨h1,cp,cO,cU,dp,ea,fi,kO,q5,sr,tZ,aa⟩
           | false=>
            cases vK:(decide ((↑(x.outs.map a6).length:Int)>0)) with
            | true=>
             rw[show aN x=false from by grind[aN,bI,bP,aq]];exact aq5 ⟨h1,cp,cO,cU,dp,ea,fi,kO,q5,sr,tZ,kO,vK,aa⟩
            | false=>
             cases xV:((↑(x.outs.map a6).length:Int)==2) with
             | true=>
              obtain⟨asC,Gq⟩:=cS (xs:=x.outs) (i:=0) (by grind[aq,aI]);obtain⟨asD,Gr⟩:=cS (xs:=x.outs) (i:=1) (by grind[aq,aI]);cases Fk:(asC==asD) with
              | true=>
               rw[show aN x=false from by grind[aN,bI,bP,aq]];exact aq6 ⟨h1,cp,cO,cU,dp,ea,fi,kO,q5,sr,tZ,kO,vK,xV,(by grind[aq,aI]),(by grind[aq,aI]),(bC a6 Gq),(by grind[aq,aI]),(by grind[aq,aI]),(bC a6 Gr),Fk,aa⟩
              | false=>
               rcases gz x ak with⟨cv,l⟩ | ⟨cv,l⟩
               ·skip
                rw[show aN x=false from by grind[aN,bI,bP,aq]];exact aq7 ⟨h1,cp,cO,cU,dp,ea,fi,kO,q5,sr,tZ,kO,vK,xV,(by grind[aq,aI]),(by grind[aq,aI]),(bC a6 Gq),(by grind[aq,aI]),(by grind[aq,aI]),(bC a6 Gr),Fk,l,aa⟩
               skip
               rw[show aN x=true from by grind[aN,bI,bP,aq]];exact aq8 ⟨h1,cp,cO,cU,dp,ea,fi,kO,q5,sr,tZ,kO,vK,xV,(by grind[aq,aI]),(by grind[aq,aI]),(bC a6 Gq),(by grind[aq,aI]),(by grind[aq,aI]),(bC a6 Gr),Fk,l,aa⟩
             | false=>
              rcases gz x ak with⟨cv,l⟩ | ⟨cv,l⟩
              ·skip
               rw[show aN x=false from by grind[aN,bI,bP,aq]];exact aq9 ⟨h1,cp,cO,cU,dp,ea,fi,kO,q5,sr,tZ,kO,vK,xV,l,aa⟩
              skip
              rw[show aN x=true from by grind[aN,bI,bP,aq]];exact ara ⟨h1,cp,cO,cU,dp,ea,fi,kO,q5,sr,tZ,kO,vK,xV,l,aa⟩
        | false=>
         rw[show aN x=false from by grind[aN,bI,bP,aq]];exact arb ⟨h1,cp,cO,cU,dp,ea,fi,kO,aa⟩
