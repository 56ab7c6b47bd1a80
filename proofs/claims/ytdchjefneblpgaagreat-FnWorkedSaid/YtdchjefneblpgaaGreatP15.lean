import Derived.Test.YtdchjefneblpgaaGreatQ2
import Derived.Test.YtdchjefneblpgaaGreatGQ
import Derived.Test.YtdchjefneblpgaaGreatGR
set_option linter.unusedVariables false
set_option linter.unusedSimpArgs false
namespace Go.Proofs.YtdchjefneblpgaaGreat
open Go.Sx Go.RowKit Go.Proofs.Tryz
def hq(s:gB):Bool:=ap s.bc 0 3&&ap s.ec 0 6
def eZ(k v:Int):Bool:=ap k 0 99&&ap v 0 999
def e4(r:aG):Bool:=ap r.op 0 7&&hq r.bw&&eZ r.key r.val
def eM(s:gB):gB×Bool:=if hq s&&decide (s.ec<6) then (⟨s.bc,s.ec+1⟩,true) else (s,false)
def less(a b:Int):Int:=if b<a then b else a
def bL(x:Node):Bool:=
 if x.kind=2 then ap x.a 0 999&&x.b==0
 else if x.kind=3 then ap x.a 1 10&&ap x.b 0 (IntKind.i64.wrap (x.a-1))
 else if x.kind=4 then ap x.a 0 99&&x.b==0
 else ap x.kind 1 8&&x.a==0&&x.b==0
def mB(l:List Int):Bool:=!(l.any fun k=>!ap k 0 7)
def bU(l:List Int):Bool:=decide (l.length=2/\l[0]?=l[1]?)
def aL(x:Node):Bool:=bL x&&decide (x.outs.length<=2)&&!(x.kind==8&&decide (0<x.outs.length))&&!bU x.outs&&mB x.outs
theorem look{α:Type}{xs:List α}{i:Int}(bN:0<=i)(h1:i<xs.length):∃a,xs[i.toNat]?=some a:=c0 (by omega)
theorem bH{α:Type}{xs:List α}{i:Nat}{a:α}(f:α->List D)(h:xs[i]?=some a):(xs.map f)[i]?=some (f a):=by simp[h]
theorem gO(x:Node)(ag:x.outs.length<=8388608):(mB x.outs=false/\c3 prog (aq f273 0) (dv (x.outs.map a') 0) .ret (gg false))\/(mB x.outs=true/\c3 prog (aq f273 0) (dv (x.outs.map a') 0) (.exit 1) gv):=by
 have l:=gN (P:=prog) (c:=(aq f273 0)) x.outs (fun k=>!ap k 0 7) (fun i=>dv (x.outs.map a') i) (X:=fun _ _=>gg false) fg (cM 1)
  (fun i a ah h=>arD ⟨b' (a8 ah),bF,bI (a8 ah),bG a' ah,kk a 0 7,h,df (a8 ah) ag,aa⟩)
  (fun i a ah h=>arC ⟨b' (a8 ah),bF,bI (a8 ah),bG a' ah,kk a 0 7,h,aa⟩)
  (arE ⟨dG,aa⟩)
 unfold mB;rcases l with⟨_,_,h1,U⟩ | ⟨i,a,_,_,_,_,h1,U⟩
 ·exact .inr ⟨by rw[h1];rfl,U⟩
 exact .inl ⟨by rw[h1];rfl,U⟩
theorem tD(x:Node)(ag:x.outs.length<=2):((mB x.outs&&!bU x.outs)=false/\c3 prog (aq f243 0) (hE x.kind x.a x.b (x.outs.map a') 0) .ret (pT false))\/((mB x.outs&&!bU x.outs)=true/\c3 prog (aq f243 0) (hE x.kind x.a x.b (x.outs.map a') 0) (.exit 1) qB):=by
 obtain⟨Oe,a,b,outs⟩:=x;have cl:=fun k=>ic k 0 7
 match outs,ag with
 | [],_=>exact .inr ⟨rfl,.last (cM 1) (Ky ⟨rfl,aa⟩)⟩
 | [k],_=>
  cases h1:ap k 0 7 with
  | false=>exact .inl ⟨by simp[mB,h1],.last fg (Kx ⟨rfl,by omega,by simp,rfl,cl k,by rw[h1];rfl,aa⟩)⟩
  | true=>
   refine .inr ⟨by simp[mB,bU,h1],.more (Q1 ⟨rfl,by omega,by simp,rfl,cl k,by rw[h1];rfl,rfl,⟨by omega,by omega⟩,aa⟩) (.last (cM 1) (Ky ⟨rfl,aa⟩))⟩
 | [k,m],_=>
  cases h1:ap k 0 7 with
  | false=>exact .inl ⟨by simp[mB,h1],.last fg (Kx ⟨rfl,by omega,by simp,rfl,cl k,by rw[h1];rfl,aa⟩)⟩
  | true=>
   have first:gl prog (aq f243 0) (hE Oe a b ([k,m].map a') 0) .normal (hE Oe a b ([k,m].map a') (0+1)):=Q1 ⟨rfl,by omega,by simp,rfl,cl k,by rw[h1];rfl,rfl,⟨by omega,by omega⟩,aa⟩
   cases U:ap m 0 7 with
   | false=>exact .inl ⟨by simp[mB,h1,U],.more first (.last fg (Kx ⟨rfl,by omega,by simp,rfl,cl m,by rw[U];rfl,aa⟩))⟩
   | true=>
    cases aw:(k==m) with
    | true=>exact .inl ⟨by simp[mB,bU,h1,U]at aw ⊢;exact aw,.more first (.last fg (ap7 ⟨rfl,by omega,by simp,rfl,cl m,by rw[U];rfl,rfl,by omega,by simp,rfl,by omega,by simp,rfl,aw,aa⟩))⟩
    | false=>exact .inr ⟨by simp[mB,bU,h1,U]at aw ⊢;exact aw,.more first (.more (ap8 ⟨rfl,by omega,by simp,rfl,cl m,by rw[U];rfl,rfl,by omega,by simp,rfl,by omega,by simp,rfl,aw,⟨by omega,by omega⟩,aa⟩) (.last (cM 1) (Ky ⟨rfl,aa⟩)))⟩
theorem Q2(s:gB):av 244 [.agg s.e] [.one (B (hq s))]:=by
 have c1:=ic s.bc 0 3;cases U:(ap s.bc 0 3) with
 | true=>
  have cA:=ic s.ec 0 6;rw[show hq s=ap s.ec 0 6 from by grind[hq]];exact aqr ⟨c1,U,cA,aa⟩
 | false=>
  rw[show hq s=false from by grind[hq]];exact aqs ⟨c1,U,aa⟩
theorem Q3(s:gB):av 274 [.agg s.e] [.one (B (hq s))]:=by
 have c1:=kk s.bc 0 3;cases U:(ap s.bc 0 3) with
 | true=>
  have cA:=kk s.ec 0 6;rw[show hq s=ap s.ec 0 6 from by grind[hq]];exact aqt ⟨c1,U,cA,aa⟩
 | false=>
  rw[show hq s=false from by grind[hq]];exact aqu ⟨c1,U,aa⟩
theorem Q4(k v:Int):av 275 [.one (I k),.one (I v)] [.one (B (eZ k v))]:=by
 have c1:=kk k 0 99;cases U:(ap k 0 99) with
 | true=>
  have cA:=kk v 0 999;rw[show eZ k v=ap v 0 999 from by grind[eZ]];exact ap0 ⟨c1,U,cA,aa⟩
 | false=>
  rw[show eZ k v=false from by grind[eZ]];exact ap1 ⟨c1,U,aa⟩
theorem r9(r:aG):av 122 [.agg r.e] [.one (B (e4 r))]:=by
 have c1:=ic r.op 0 7;cases U:(ap r.op 0 7) with
 | true=>
  have cA:=Q2 r.bw;cases aH:(hq r.bw) with
  | true=>
   have ga:=ic r.key 0 99;cases bA:(ap r.key 0 99) with
   | true=>
    have Fs:=ic r.val 0 999;rw[show e4 r=ap r.val 0 999 from by grind[e4,eZ]];exact aqk ⟨c1,U,cA,aH,ga,bA,Fs,aa⟩
   | false=>
    rw[show e4 r=false from by grind[e4,eZ]];exact aql ⟨c1,U,cA,aH,ga,bA,aa⟩
  | false=>
   rw[show e4 r=false from by grind[e4,eZ]];exact aqm ⟨c1,U,cA,aH,aa⟩
 | false=>
  rw[show e4 r=false from by grind[e4,eZ]];exact aqn ⟨c1,U,aa⟩
theorem vd(r:aG):av 180 [.agg r.e] [.one (B (e4 r))]:=by
 have c1:=kk r.op 0 7;cases U:(ap r.op 0 7) with
 | true=>
  have cA:=Q3 r.bw;cases aH:(hq r.bw) with
  | true=>
   have ga:=Q4 r.key r.val;rw[show e4 r=eZ r.key r.val from by grind[e4,eZ]];exact aqo ⟨c1,U,cA,aH,ga,aa⟩
  | false=>
   rw[show e4 r=false from by grind[e4,eZ]];exact aqp ⟨c1,U,cA,aH,aa⟩
 | false=>
  rw[show e4 r=false from by grind[e4,eZ]];exact aqq ⟨c1,U,aa⟩
theorem xA(s:gB):av 270 [.agg s.e] [.agg ((eM s).1).e,.one (B ((eM s).2))]:=by
 have c1:=Q2 s;cases U:(hq s) with
 | true=>
  cases aw:(decide (s.ec>=6)) with
  | true=>
   rw[show eM s=(s,false) from by grind[eM,hq,ap]];exact aqw ⟨c1,(by rw[U];rfl),aw,aa⟩
  | false=>
   rw[show eM s=((⟨s.bc,s.ec+1⟩:gB),true) from by grind[eM,hq,ap]];exact aqx ⟨c1,(by rw[U];rfl),aw,(by grind[hq,ap,ay]),aa⟩
 | false=>
  rw[show eM s=(s,false) from by grind[eM,hq,ap]];exact aqv ⟨c1,(by rw[U];rfl),aa⟩
theorem Kz(s:gB):av 300 [.agg s.e] [.agg ((eM s).1).e,.one (B ((eM s).2))]:=by
 have c1:=Q3 s;cases U:(hq s) with
 | true=>
  cases aw:(s.ec==6) with
  | true=>
   rw[show eM s=(s,false) from by grind[eM,hq,ap]];exact aqz ⟨c1,(by rw[U];rfl),aw,aa⟩
  | false=>
   rw[show eM s=((⟨s.bc,s.ec+1⟩:gB),true) from by grind[eM,hq,ap]];exact aqA ⟨c1,(by rw[U];rfl),aw,(by grind[hq,ap,ay]),aa⟩
 | false=>
  rw[show eM s=(s,false) from by grind[eM,hq,ap]];exact aqy ⟨c1,(by rw[U];rfl),aa⟩
theorem Zw(a b:Int):av 323 [.one (I a),.one (I b)] [.one (I (less a b))]:=by
 cases h1:(decide (b<a)) with
 | true=>
  rw[show less a b=b from by grind[less]];exact apY ⟨h1,aa⟩
 | false=>
  rw[show less a b=a from by grind[less]];exact apZ ⟨h1,aa⟩
theorem Q5(x:Node)(ag:x.outs.length<=8388608):av 243 [.agg x.e] [.one (B (aL x))]:=by
 cases h1:(x.kind==2) with
 | true=>
  have c2:=ic x.a 0 999;have cA:=ic x.kind 1 8;cases aH:(ap x.kind 1 8) with
  | true=>
   cases aU:(ap x.a 0 999) with
   | true=>
    cases bA:(x.b==0) with
    | true=>
     cases bP:(decide ((↑(x.outs.map a').length:Int)>2)) with
     | true=>
      rw[show aL x=false from by grind[aL,bL,bU,ap]];exact ap5 ⟨h1,c2,cA,(by rw[aH];rfl),(by rw[aU];rfl),(by rw[bA];rfl),bP,aa⟩
     | false=>
      cases c':(x.kind==8) with
      | true=>
       cases dS:(decide ((↑(x.outs.map a').length:Int)>0)) with
       | true=>
        rw[show aL x=false from by grind[aL,bL,bU,ap]];exact ap6 ⟨h1,c2,cA,(by rw[aH];rfl),(by rw[aU];rfl),(by rw[bA];rfl),bP,c',dS,aa⟩
       | false=>
        rcases tD x (by grind) with⟨cw,l⟩ | ⟨cw,l⟩
        ·skip
         rw[show aL x=false from by grind[aL,bL,bU,ap]];exact ap9 ⟨h1,c2,cA,(by rw[aH];rfl),(by rw[aU];rfl),(by rw[bA];rfl),bP,c',dS,l,aa⟩
        skip
        rw[show aL x=true from by grind[aL,bL,bU,ap]];exact aqa ⟨h1,c2,cA,(by rw[aH];rfl),(by rw[aU];rfl),(by rw[bA];rfl),bP,c',dS,l,aa⟩
      | false=>
       rcases tD x (by grind) with⟨cw,l⟩ | ⟨cw,l⟩
       ·skip
        rw[show aL x=false from by grind[aL,bL,bU,ap]];exact aqb ⟨h1,c2,cA,(by rw[aH];rfl),(by rw[aU];rfl),(by rw[bA];rfl),bP,c',l,aa⟩
       skip
       rw[show aL x=true from by grind[aL,bL,bU,ap]];exact aqc ⟨h1,c2,cA,(by rw[aH];rfl),(by rw[aU];rfl),(by rw[bA];rfl),bP,c',l,aa⟩
    | false=>
     rw[show aL x=false from by grind[aL,bL,bU,ap]];exact ap4 ⟨h1,c2,cA,(by rw[aH];rfl),(by rw[aU];rfl),(by rw[bA];rfl),aa⟩
   | false=>
    rw[show aL x=false from by grind[aL,bL,bU,ap]];exact ap3 ⟨h1,c2,cA,(by rw[aH];rfl),(by rw[aU];rfl),aa⟩
  | false=>
   rw[show aL x=false from by grind[aL,bL,bU,ap]];exact ap2 ⟨h1,c2,cA,(by rw[aH];rfl),aa⟩
 | false=>
  cases dF:(x.kind==3) with
  | true=>
   have o2:=ic x.a 1 10;have nc:=ic x.b 0 (IntKind.i64.wrap (x.a-1));have mc:=ic x.kind 1 8;cases kK:(ap x.kind 1 8) with
   | true=>
    cases jb:(ap x.a 1 10) with
    | true=>
     cases cu:(ap x.b 0 (IntKind.i64.wrap (x.a-1))) with
     | true=>
      cases qd:(decide ((↑(x.outs.map a').length:Int)>2)) with
      | true=>
       rw[show aL x=false from by grind[aL,bL,bU,ap]];exact apG ⟨h1,dF,o2,nc,mc,(by rw[kK];rfl),(by rw[jb];rfl),(by rw[cu];rfl),qd,aa⟩
      | false=>
       cases gK:(x.kind==8) with
       | true=>
        cases FL:(decide ((↑(x.outs.map a').length:Int)>0)) with
        | true=>
         rw[show aL x=false from by grind[aL,bL,bU,ap]];exact apH ⟨h1,dF,o2,nc,mc,(by rw[kK];rfl),(by rw[jb];rfl),(by rw[cu];rfl),qd,gK,FL,aa⟩
        | false=>
         rcases tD x (by grind) with⟨cw,l⟩ | ⟨cw,l⟩
         ·skip
          rw[show aL x=false from by grind[aL,bL,bU,ap]];exact apI ⟨h1,dF,o2,nc,mc,(by rw[kK];rfl),(by rw[jb];rfl),(by rw[cu];rfl),qd,gK,FL,l,aa⟩
         skip
         rw[show aL x=true from by grind[aL,bL,bU,ap]];exact apJ ⟨h1,dF,o2,nc,mc,(by rw[kK];rfl),(by rw[jb];rfl),(by rw[cu];rfl),qd,gK,FL,l,aa⟩
       | false=>
        rcases tD x (by grind) with⟨cw,l⟩ | ⟨cw,l⟩
        ·skip
         rw[show aL x=false from by grind[aL,bL,bU,ap]];exact apK ⟨h1,dF,o2,nc,mc,(by rw[kK];rfl),(by rw[jb];rfl),(by rw[cu];rfl),qd,gK,l,aa⟩
        skip
        rw[show aL x=true from by grind[aL,bL,bU,ap]];exact apL ⟨h1,dF,o2,nc,mc,(by rw[kK];rfl),(by rw[jb];rfl),(by rw[cu];rfl),qd,gK,l,aa⟩
     | false=>
      rw[show aL x=false from by grind[aL,bL,bU,ap]];exact apF ⟨h1,dF,o2,nc,mc,(by rw[kK];rfl),(by rw[jb];rfl),(by rw[cu];rfl),aa⟩
    | false=>
     rw[show aL x=false from by grind[aL,bL,bU,ap]];exact apE ⟨h1,dF,o2,nc,mc,(by rw[kK];rfl),(by rw[jb];rfl),aa⟩
   | false=>
    rw[show aL x=false from by grind[aL,bL,bU,ap]];exact apD ⟨h1,dF,o2,nc,mc,(by rw[kK];rfl),aa⟩
  | false=>
   cases eU:(x.kind==4) with
   | true=>
    have me:=ic x.a 0 99;have rb:=ic x.kind 1 8;cases jB:(ap x.kind 1 8) with
    | true=>
     cases ml:(ap x.a 0 99) with
     | true=>
      cases o8:(x.b==0) with
      | true=>
       cases o9:(decide ((↑(x.outs.map a').length:Int)>2)) with
       | true=>
        rw[show aL x=false from by grind[aL,bL,bU,ap]];exact arh ⟨h1,dF,eU,me,rb,(by rw[jB];rfl),(by rw[ml];rfl),(by rw[o8];rfl),o9,aa⟩
       | false=>
        cases rl:(x.kind==8) with
        | true=>
         cases nh:(decide ((↑(x.outs.map a').length:Int)>0)) with
         | true=>
          rw[show aL x=false from by grind[aL,bL,bU,ap]];exact ari ⟨h1,dF,eU,me,rb,(by rw[jB];rfl),(by rw[ml];rfl),(by rw[o8];rfl),o9,rl,nh,aa⟩
         | false=>
          rcases tD x (by grind) with⟨cw,l⟩ | ⟨cw,l⟩
          ·skip
           rw[show aL x=false from by grind[aL,bL,bU,ap]];exact arj ⟨h1,dF,eU,me,rb,(by rw[jB];rfl),(by rw[ml];rfl),(by rw[o8];rfl),o9,rl,nh,l,aa⟩
          skip
          rw[show aL x=true from by grind[aL,bL,bU,ap]];exact ark ⟨h1,dF,eU,me,rb,(by rw[jB];rfl),(by rw[ml];rfl),(by rw[o8];rfl),o9,rl,nh,l,aa⟩
        | false=>
         rcases tD x (by grind) with⟨cw,l⟩ | ⟨cw,l⟩
         ·skip
          rw[show aL x=false from by grind[aL,bL,bU,ap]];exact arl ⟨h1,dF,eU,me,rb,(by rw[jB];rfl),(by rw[ml];rfl),(by rw[o8];rfl),o9,rl,l,aa⟩
         skip
         rw[show aL x=true from by grind[aL,bL,bU,ap]];exact arm ⟨h1,dF,eU,me,rb,(by rw[jB];rfl),(by rw[ml];rfl),(by rw[o8];rfl),o9,rl,l,aa⟩
      | false=>
       rw[show aL x=false from by grind[aL,bL,bU,ap]];exact arf ⟨h1,dF,eU,me,rb,(by rw[jB];rfl),(by rw[ml];rfl),(by rw[o8];rfl),aa⟩
     | false=>
      rw[show aL x=false from by grind[aL,bL,bU,ap]];exact ard ⟨h1,dF,eU,me,rb,(by rw[jB];rfl),(by rw[ml];rfl),aa⟩
    | false=>
     rw[show aL x=false from by grind[aL,bL,bU,ap]];exact apM ⟨h1,dF,eU,me,rb,(by rw[jB];rfl),aa⟩
   | false=>
    have rc:=ic x.kind 1 8;cases rm:(ap x.kind 1 8) with
    | true=>
     cases oa:(x.a==0) with
     | true=>
      cases cS:(x.b==0) with
      | true=>
       cases wo:(decide ((↑(x.outs.map a').length:Int)>2)) with
       | true=>
        rw[show aL x=false from by grind[aL,bL,bU,ap]];exact arq ⟨h1,dF,eU,rc,(by rw[rm];rfl),(by rw[oa];rfl),(by rw[cS];rfl),wo,aa⟩
       | false=>
        cases jY:(x.kind==8) with
        | true=>
         cases kM:(decide ((↑(x.outs.map a').length:Int)>0)) with
         | true=>
          rw[show aL x=false from by grind[aL,bL,bU,ap]];exact ars ⟨h1,dF,eU,rc,(by rw[rm];rfl),(by rw[oa];rfl),(by rw[cS];rfl),wo,jY,kM,aa⟩
         | false=>
          rcases tD x (by grind) with⟨cw,l⟩ | ⟨cw,l⟩
          ·skip
           rw[show aL x=false from by grind[aL,bL,bU,ap]];exact art ⟨h1,dF,eU,rc,(by rw[rm];rfl),(by rw[oa];rfl),(by rw[cS];rfl),wo,jY,kM,l,aa⟩
          skip
          rw[show aL x=true from by grind[aL,bL,bU,ap]];exact aru ⟨h1,dF,eU,rc,(by rw[rm];rfl),(by rw[oa];rfl),(by rw[cS];rfl),wo,jY,kM,l,aa⟩
        | false=>
         rcases tD x (by grind) with⟨cw,l⟩ | ⟨cw,l⟩
         ·skip
          rw[show aL x=false from by grind[aL,bL,bU,ap]];exact arv ⟨h1,dF,eU,rc,(by rw[rm];rfl),(by rw[oa];rfl),(by rw[cS];rfl),wo,jY,l,aa⟩
         skip
         rw[show aL x=true from by grind[aL,bL,bU,ap]];exact arw ⟨h1,dF,eU,rc,(by rw[rm];rfl),(by rw[oa];rfl),(by rw[cS];rfl),wo,jY,l,aa⟩
      | false=>
       rw[show aL x=false from by grind[aL,bL,bU,ap]];exact arp ⟨h1,dF,eU,rc,(by rw[rm];rfl),(by rw[oa];rfl),(by rw[cS];rfl),aa⟩
     | false=>
      rw[show aL x=false from by grind[aL,bL,bU,ap]];exact aro ⟨h1,dF,eU,rc,(by rw[rm];rfl),(by rw[oa];rfl),aa⟩
    | false=>
     rw[show aL x=false from by grind[aL,bL,bU,ap]];exact arn ⟨h1,dF,eU,rc,(by rw[rm];rfl),aa⟩
theorem Q6(x:Node)(ag:x.outs.length<=8388608):av 273 [.agg x.e] [.one (B (aL x))]:=by
 cases h1:(x.kind==2) with
 | true=>
  have c2:=kk x.a 0 999;cases aw:(ap x.a 0 999) with
  | true=>
   cases aH:(x.b != 0) with
   | true=>
    rw[show aL x=false from by grind[aL,bL,bU,ap]];exact ary ⟨h1,c2,(by rw[aw];rfl),aH,aa⟩
   | false=>
    cases aU:(decide ((↑(x.outs.map a').length:Int)>2)) with
    | true=>
     rw[show aL x=false from by grind[aL,bL,bU,ap]];exact arz ⟨h1,c2,(by rw[aw];rfl),aH,aU,aa⟩
    | false=>
     cases bA:(x.kind==8) with
     | true=>
      cases bP:(decide ((↑(x.outs.map a').length:Int)>0)) with
      | true=>
       rw[show aL x=false from by grind[aL,bL,bU,ap]];exact arA ⟨h1,c2,(by rw[aw];rfl),aH,aU,bA,bP,aa⟩
      | false=>
       cases c':((↑(x.outs.map a').length:Int)==2) with
       | true=>
        obtain⟨E7,rM⟩:=c0 (xs:=x.outs) (i:=0) (by grind[ap,ay]);obtain⟨EJ,GN⟩:=c0 (xs:=x.outs) (i:=1) (by grind[ap,ay]);cases hL:(E7==EJ) with
        | true=>
         rw[show aL x=false from by grind[aL,bL,bU,ap]];exact arB ⟨h1,c2,(by rw[aw];rfl),aH,aU,bA,bP,c',(by grind[ap,ay]),(by grind[ap,ay]),(bH a' rM),(by grind[ap,ay]),(by grind[ap,ay]),(bH a' GN),hL,aa⟩
        | false=>
         rcases gO x ag with⟨cw,l⟩ | ⟨cw,l⟩
         ·skip
          rw[show aL x=false from by grind[aL,bL,bU,ap]];exact arF ⟨h1,c2,(by rw[aw];rfl),aH,aU,bA,bP,c',(by grind[ap,ay]),(by grind[ap,ay]),(bH a' rM),(by grind[ap,ay]),(by grind[ap,ay]),(bH a' GN),hL,l,aa⟩
         skip
         rw[show aL x=true from by grind[aL,bL,bU,ap]];exact aqN ⟨h1,c2,(by rw[aw];rfl),aH,aU,bA,bP,c',(by grind[ap,ay]),(by grind[ap,ay]),(bH a' rM),(by grind[ap,ay]),(by grind[ap,ay]),(bH a' GN),hL,l,aa⟩
       | false=>
        rcases gO x ag with⟨cw,l⟩ | ⟨cw,l⟩
        ·skip
         rw[show aL x=false from by grind[aL,bL,bU,ap]];exact aqO ⟨h1,c2,(by rw[aw];rfl),aH,aU,bA,bP,c',l,aa⟩
        skip
        rw[show aL x=true from by grind[aL,bL,bU,ap]];exact aqP ⟨h1,c2,(by rw[aw];rfl),aH,aU,bA,bP,c',l,aa⟩
     | false=>
      cases h4:((↑(x.outs.map a').length:Int)==2) with
      | true=>
       obtain⟨A5,GV⟩:=c0 (xs:=x.outs) (i:=0) (by grind[ap,ay]);obtain⟨A6,GX⟩:=c0 (xs:=x.outs) (i:=1) (by grind[ap,ay]);cases jb:(A5==A6) with
       | true=>
        rw[show aL x=false from by grind[aL,bL,bU,ap]];exact aqQ ⟨h1,c2,(by rw[aw];rfl),aH,aU,bA,h4,(by grind[ap,ay]),(by grind[ap,ay]),(bH a' GV),(by grind[ap,ay]),(by grind[ap,ay]),(bH a' GX),jb,aa⟩
       | false=>
        rcases gO x ag with⟨cw,l⟩ | ⟨cw,l⟩
        ·skip
         rw[show aL x=false from by grind[aL,bL,bU,ap]];exact aqR ⟨h1,c2,(by rw[aw];rfl),aH,aU,bA,h4,(by grind[ap,ay]),(by grind[ap,ay]),(bH a' GV),(by grind[ap,ay]),(by grind[ap,ay]),(bH a' GX),jb,l,aa⟩
        skip
        rw[show aL x=true from by grind[aL,bL,bU,ap]];exact aqS ⟨h1,c2,(by rw[aw];rfl),aH,aU,bA,h4,(by grind[ap,ay]),(by grind[ap,ay]),(bH a' GV),(by grind[ap,ay]),(by grind[ap,ay]),(bH a' GX),jb,l,aa⟩
      | false=>
       rcases gO x ag with⟨cw,l⟩ | ⟨cw,l⟩
       ·skip
        rw[show aL x=false from by grind[aL,bL,bU,ap]];exact aqT ⟨h1,c2,(by rw[aw];rfl),aH,aU,bA,h4,l,aa⟩
       skip
       rw[show aL x=true from by grind[aL,bL,bU,ap]];exact aqU ⟨h1,c2,(by rw[aw];rfl),aH,aU,bA,h4,l,aa⟩
  | false=>
   rw[show aL x=false from by grind[aL,bL,bU,ap]];exact arx ⟨h1,c2,(by rw[aw];rfl),aa⟩
 | false=>
  cases cu:(x.kind==3) with
  | true=>
   have k9:=kk x.a 1 10;cases gK:(ap x.a 1 10) with
   | true=>
    have iG:=kk x.b 0 (IntKind.i64.wrap (x.a-1));cases eU:(ap x.b 0 (IntKind.i64.wrap (x.a-1))) with
    | true=>
     cases n':(decide ((↑(x.outs.map a').length:Int)>2)) with
     | true=>
      rw[show aL x=false from by grind[aL,bL,bU,ap]];exact aqX ⟨h1,cu,k9,(by rw[gK];rfl),iG,(by rw[eU];rfl),n',aa⟩
     | false=>
      cases kL:(x.kind==8) with
      | true=>
       cases jB:(decide ((↑(x.outs.map a').length:Int)>0)) with
       | true=>
        rw[show aL x=false from by grind[aL,bL,bU,ap]];exact aqY ⟨h1,cu,k9,(by rw[gK];rfl),iG,(by rw[eU];rfl),n',kL,jB,aa⟩
       | false=>
        cases ml:((↑(x.outs.map a').length:Int)==2) with
        | true=>
         obtain⟨EN,GY⟩:=c0 (xs:=x.outs) (i:=0) (by grind[ap,ay]);obtain⟨EO,GZ⟩:=c0 (xs:=x.outs) (i:=1) (by grind[ap,ay]);cases rl:(EN==EO) with
         | true=>
          rw[show aL x=false from by grind[aL,bL,bU,ap]];exact aqZ ⟨h1,cu,k9,(by rw[gK];rfl),iG,(by rw[eU];rfl),n',kL,jB,ml,(by grind[ap,ay]),(by grind[ap,ay]),(bH a' GY),(by grind[ap,ay]),(by grind[ap,ay]),(bH a' GZ),rl,aa⟩
         | false=>
          rcases gO x ag with⟨cw,l⟩ | ⟨cw,l⟩
          ·skip
           rw[show aL x=false from by grind[aL,bL,bU,ap]];exact aq0 ⟨h1,cu,k9,(by rw[gK];rfl),iG,(by rw[eU];rfl),n',kL,jB,ml,(by grind[ap,ay]),(by grind[ap,ay]),(bH a' GY),(by grind[ap,ay]),(by grind[ap,ay]),(bH a' GZ),rl,l,aa⟩
          skip
          rw[show aL x=true from by grind[aL,bL,bU,ap]];exact aq1 ⟨h1,cu,k9,(by rw[gK];rfl),iG,(by rw[eU];rfl),n',kL,jB,ml,(by grind[ap,ay]),(by grind[ap,ay]),(bH a' GY),(by grind[ap,ay]),(by grind[ap,ay]),(bH a' GZ),rl,l,aa⟩
        | false=>
         rcases gO x ag with⟨cw,l⟩ | ⟨cw,l⟩
         ·skip
          rw[show aL x=false from by grind[aL,bL,bU,ap]];exact aq2 ⟨h1,cu,k9,(by rw[gK];rfl),iG,(by rw[eU];rfl),n',kL,jB,ml,l,aa⟩
         skip
         rw[show aL x=true from by grind[aL,bL,bU,ap]];exact aq3 ⟨h1,cu,k9,(by rw[gK];rfl),iG,(by rw[eU];rfl),n',kL,jB,ml,l,aa⟩
      | false=>
       cases nh:((↑(x.outs.map a').length:Int)==2) with
       | true=>
        obtain⟨Bb,G0⟩:=c0 (xs:=x.outs) (i:=0) (by grind[ap,ay]);obtain⟨EY,G1⟩:=c0 (xs:=x.outs) (i:=1) (by grind[ap,ay]);cases oa:(Bb==EY) with
        | true=>
         rw[show aL x=false from by grind[aL,bL,bU,ap]];exact aq4 ⟨h1,cu,k9,(by rw[gK];rfl),iG,(by rw[eU];rfl),n',kL,nh,(by grind[ap,ay]),(by grind[ap,ay]),(bH a' G0),(by grind[ap,ay]),(by grind[ap,ay]),(bH a' G1),oa,aa⟩
        | false=>
         rcases gO x ag with⟨cw,l⟩ | ⟨cw,l⟩
         ·skip
          rw[show aL x=false from by grind[aL,bL,bU,ap]];exact aq5 ⟨h1,cu,k9,(by rw[gK];rfl),iG,(by rw[eU];rfl),n',kL,nh,(by grind[ap,ay]),(by grind[ap,ay]),(bH a' G0),(by grind[ap,ay]),(by grind[ap,ay]),(bH a' G1),oa,l,aa⟩
         skip
         rw[show aL x=true from by grind[aL,bL,bU,ap]];exact aq6 ⟨h1,cu,k9,(by rw[gK];rfl),iG,(by rw[eU];rfl),n',kL,nh,(by grind[ap,ay]),(by grind[ap,ay]),(bH a' G0),(by grind[ap,ay]),(by grind[ap,ay]),(bH a' G1),oa,l,aa⟩
       | false=>
        rcases gO x ag with⟨cw,l⟩ | ⟨cw,l⟩
        ·skip
         rw[show aL x=false from by grind[aL,bL,bU,ap]];exact aq7 ⟨h1,cu,k9,(by rw[gK];rfl),iG,(by rw[eU];rfl),n',kL,nh,l,aa⟩
        skip
        rw[show aL x=true from by grind[aL,bL,bU,ap]];exact aq8 ⟨h1,cu,k9,(by rw[gK];rfl),iG,(by rw[eU];rfl),n',kL,nh,l,aa⟩
    | false=>
     rw[show aL x=false from by grind[aL,bL,bU,ap]];exact aqW ⟨h1,cu,k9,(by rw[gK];rfl),iG,(by rw[eU];rfl),aa⟩
   | false=>
    rw[show aL x=false from by grind[aL,bL,bU,ap]];exact aqV ⟨h1,cu,k9,(by rw[gK];rfl),aa⟩
  | false=>
   cases cS:(x.kind==4) with
   | true=>
    have mf:=kk x.a 0 99;cases jY:(ap x.a 0 99) with
    | true=>
     cases kM:(x.b != 0) with
     | true=>
      rw[show aL x=false from by grind[aL,bL,bU,ap]];exact ara ⟨h1,cu,cS,mf,(by rw[jY];rfl),kM,aa⟩
     | false=>
      cases ob:(decide ((↑(x.outs.map a').length:Int)>2)) with
      | true=>
       rw[show aL x=false from by grind[aL,bL,bU,ap]];exact arb ⟨h1,cu,cS,mf,(by rw[jY];rfl),kM,ob,aa⟩
      | false=>
       cases o':(x.kind==8) with
       | true=>
        cases wq:(decide ((↑(x.outs.map a').length:Int)>0)) with
        | true=>
         rw[show aL x=false from by grind[aL,bL,bU,ap]];exact arc ⟨h1,cu,cS,mf,(by rw[jY];rfl),kM,ob,o',wq,aa⟩
        | false=>
         cases ym:((↑(x.outs.map a').length:Int)==2) with
         | true=>
          obtain⟨atd,G2⟩:=c0 (xs:=x.outs) (i:=0) (by grind[ap,ay]);obtain⟨ate,G3⟩:=c0 (xs:=x.outs) (i:=1) (by grind[ap,ay]);cases FM:(atd==ate) with
          | true=>
           rw[show aL x=false from by grind[aL,bL,bU,ap]];exact aqD ⟨h1,cu,cS,mf,(by rw[jY];rfl),kM,ob,o',wq,ym,(by grind[ap,ay]),(by grind[ap,ay]),(bH a' G2),(by grind[ap,ay]),(by grind[ap,ay]),(bH a' G3),FM,aa⟩
          | false=>
           rcases gO x ag with⟨cw,l⟩ | ⟨cw,l⟩
           ·skip
            rw[show aL x=false from by grind[aL,bL,bU,ap]];exact aqE ⟨h1,cu,cS,mf,(by rw[jY];rfl),kM,ob,o',wq,ym,(by grind[ap,ay]),(by grind[ap,ay]),(bH a' G2),(by grind[ap,ay]),(by grind[ap,ay]),(bH a' G3),FM,l,aa⟩
           skip
           rw[show aL x=true from by grind[aL,bL,bU,ap]];exact aqF ⟨h1,cu,cS,mf,(by rw[jY];rfl),kM,ob,o',wq,ym,(by grind[ap,ay]),(by grind[ap,ay]),(bH a' G2),(by grind[ap,ay]),(by grind[ap,ay]),(bH a' G3),FM,l,aa⟩
         | false=>
          rcases gO x ag with⟨cw,l⟩ | ⟨cw,l⟩
          ·skip
           rw[show aL x=false from by grind[aL,bL,bU,ap]];exact aqG ⟨h1,cu,cS,mf,(by rw[jY];rfl),kM,ob,o',wq,ym,l,aa⟩
          skip
          rw[show aL x=true from by grind[aL,bL,bU,ap]];exact aqH ⟨h1,cu,cS,mf,(by rw[jY];rfl),kM,ob,o',wq,ym,l,aa⟩
       | false=>
        cases yn:((↑(x.outs.map a').length:Int)==2) with
        | true=>
         obtain⟨atf,G4⟩:=c0 (xs:=x.outs) (i:=0) (by grind[ap,ay]);obtain⟨atg,G5⟩:=c0 (xs:=x.outs) (i:=1) (by grind[ap,ay]);cases FN:(atf==atg) with
         | true=>
          rw[show aL x=false from by grind[aL,bL,bU,ap]];exact aqI ⟨h1,cu,cS,mf,(by rw[jY];rfl),kM,ob,o',yn,(by grind[ap,ay]),(by grind[ap,ay]),(bH a' G4),(by grind[ap,ay]),(by grind[ap,ay]),(bH a' G5),FN,aa⟩
         | false=>
          rcases gO x ag with⟨cw,l⟩ | ⟨cw,l⟩
          ·skip
           rw[show aL x=false from by grind[aL,bL,bU,ap]];exact aqJ ⟨h1,cu,cS,mf,(by rw[jY];rfl),kM,ob,o',yn,(by grind[ap,ay]),(by grind[ap,ay]),(bH a' G4),(by grind[ap,ay]),(by grind[ap,ay]),(bH a' G5),FN,l,aa⟩
          skip
          rw[show aL x=true from by grind[aL,bL,bU,ap]];exact aqK ⟨h1,cu,cS,mf,(by rw[jY];rfl),kM,ob,o',yn,(by grind[ap,ay]),(by grind[ap,ay]),(bH a' G4),(by grind[ap,ay]),(by grind[ap,ay]),(bH a' G5),FN,l,aa⟩
        | false=>
         rcases gO x ag with⟨cw,l⟩ | ⟨cw,l⟩
         ·skip
          rw[show aL x=false from by grind[aL,bL,bU,ap]];exact aqL ⟨h1,cu,cS,mf,(by rw[jY];rfl),kM,ob,o',yn,l,aa⟩
         skip
         rw[show aL x=true from by grind[aL,bL,bU,ap]];exact aqM ⟨h1,cu,cS,mf,(by rw[jY];rfl),kM,ob,o',yn,l,aa⟩
    | false=>
     rw[show aL x=false from by grind[aL,bL,bU,ap]];exact aq9 ⟨h1,cu,cS,mf,(by rw[jY];rfl),aa⟩
   | false=>
    cases c5:(x.kind==1) with
    | true=>
     cases mm:(x.a != 0) with
     | true=>
      rw[show aL x=false from by grind[aL,bL,bU,ap]];exact asg ⟨h1,cu,cS,c5,c5,mm,aa⟩
     | false=>
      cases ni:(x.b != 0) with
      | true=>
       rw[show aL x=false from by grind[aL,bL,bU,ap]];exact ash ⟨h1,cu,cS,c5,c5,mm,ni,aa⟩
      | false=>
       cases oc:(decide ((↑(x.outs.map a').length:Int)>2)) with
       | true=>
        rw[show aL x=false from by grind[aL,bL,bU,ap]];exact asi ⟨h1,cu,cS,c5,c5,mm,ni,oc,aa⟩
       | false=>
        cases pa:(x.kind==8) with
        | true=>
         cases wu:(decide ((↑(x.outs.map a').length:Int)>0)) with
         | true=>
          rw[show aL x=false from by grind[aL,bL,bU,ap]];exact asj ⟨h1,cu,cS,c5,c5,mm,ni,oc,pa,wu,aa⟩
         | false=>
          cases yo:((↑(x.outs.map a').length:Int)==2) with
          | true=>
           obtain⟨ath,G6⟩:=c0 (xs:=x.outs) (i:=0) (by grind[ap,ay]);obtain⟨ati,G7⟩:=c0 (xs:=x.outs) (i:=1) (by grind[ap,ay]);cases FO:(ath==ati) with
           | true=>
            rw[show aL x=false from by grind[aL,bL,bU,ap]];exact asl ⟨h1,cu,cS,c5,c5,mm,ni,oc,pa,wu,yo,(by grind[ap,ay]),(by grind[ap,ay]),(bH a' G6),(by grind[ap,ay]),(by grind[ap,ay]),(bH a' G7),FO,aa⟩
           | false=>
            rcases gO x ag with⟨cw,l⟩ | ⟨cw,l⟩
            ·skip
             rw[show aL x=false from by grind[aL,bL,bU,ap]];exact asm ⟨h1,cu,cS,c5,c5,mm,ni,oc,pa,wu,yo,(by grind[ap,ay]),(by grind[ap,ay]),(bH a' G6),(by grind[ap,ay]),(by grind[ap,ay]),(bH a' G7),FO,l,aa⟩
            skip
            rw[show aL x=true from by grind[aL,bL,bU,ap]];exact asn ⟨h1,cu,cS,c5,c5,mm,ni,oc,pa,wu,yo,(by grind[ap,ay]),(by grind[ap,ay]),(bH a' G6),(by grind[ap,ay]),(by grind[ap,ay]),(bH a' G7),FO,l,aa⟩
          | false=>
           rcases gO x ag with⟨cw,l⟩ | ⟨cw,l⟩
           ·skip
            rw[show aL x=false from by grind[aL,bL,bU,ap]];exact aso ⟨h1,cu,cS,c5,c5,mm,ni,oc,pa,wu,yo,l,aa⟩
           skip
           rw[show aL x=true from by grind[aL,bL,bU,ap]];exact asp ⟨h1,cu,cS,c5,c5,mm,ni,oc,pa,wu,yo,l,aa⟩
        | false=>
         cases yp:((↑(x.outs.map a').length:Int)==2) with
         | true=>
          obtain⟨atj,G8⟩:=c0 (xs:=x.outs) (i:=0) (by grind[ap,ay]);obtain⟨atk,G9⟩:=c0 (xs:=x.outs) (i:=1) (by grind[ap,ay]);cases FP:(atj==atk) with
          | true=>
           rw[show aL x=false from by grind[aL,bL,bU,ap]];exact asq ⟨h1,cu,cS,c5,c5,mm,ni,oc,pa,yp,(by grind[ap,ay]),(by grind[ap,ay]),(bH a' G8),(by grind[ap,ay]),(by grind[ap,ay]),(bH a' G9),FP,aa⟩
          | false=>
           rcases gO x ag with⟨cw,l⟩ | ⟨cw,l⟩
           ·skip
            rw[show aL x=false from by grind[aL,bL,bU,ap]];exact asr ⟨h1,cu,cS,c5,c5,mm,ni,oc,pa,yp,(by grind[ap,ay]),(by grind[ap,ay]),(bH a' G8),(by grind[ap,ay]),(by grind[ap,ay]),(bH a' G9),FP,l,aa⟩
           skip
           rw[show aL x=true from by grind[aL,bL,bU,ap]];exact ass ⟨h1,cu,cS,c5,c5,mm,ni,oc,pa,yp,(by grind[ap,ay]),(by grind[ap,ay]),(bH a' G8),(by grind[ap,ay]),(by grind[ap,ay]),(bH a' G9),FP,l,aa⟩
         | false=>
          rcases gO x ag with⟨cw,l⟩ | ⟨cw,l⟩
          ·skip
           rw[show aL x=false from by grind[aL,bL,bU,ap]];exact ast ⟨h1,cu,cS,c5,c5,mm,ni,oc,pa,yp,l,aa⟩
          skip
          rw[show aL x=true from by grind[aL,bL,bU,ap]];exact asu ⟨h1,cu,cS,c5,c5,mm,ni,oc,pa,yp,l,aa⟩
    | false=>
     cases dz:(x.kind==5) with
     | true=>
      cases mn:(x.a != 0) with
      | true=>
       rw[show aL x=false from by grind[aL,bL,bU,ap]];exact asv ⟨h1,cu,cS,c5,dz,dz,mn,aa⟩
      | false=>
       cases nj:(x.b != 0) with
       | true=>
        rw[show aL x=false from by grind[aL,bL,bU,ap]];exact asw ⟨h1,cu,cS,c5,dz,dz,mn,nj,aa⟩
       | false=>
        cases od:(decide ((↑(x.outs.map a').length:Int)>2)) with
        | true=>
         rw[show aL x=false from by grind[aL,bL,bU,ap]];exact asx ⟨h1,cu,cS,c5,dz,dz,mn,nj,od,aa⟩
        | false=>
         cases pb:(x.kind==8) with
         | true=>
          cases wv:(decide ((↑(x.outs.map a').length:Int)>0)) with
          | true=>
           rw[show aL x=false from by grind[aL,bL,bU,ap]];exact asy ⟨h1,cu,cS,c5,dz,dz,mn,nj,od,pb,wv,aa⟩
          | false=>
           cases yq:((↑(x.outs.map a').length:Int)==2) with
           | true=>
            obtain⟨atl,G'⟩:=c0 (xs:=x.outs) (i:=0) (by grind[ap,ay]);obtain⟨atm,Ha⟩:=c0 (xs:=x.outs) (i:=1) (by grind[ap,ay]);cases FQ:(atl==atm) with
            | true=>
             rw[show aL x=false from by grind[aL,bL,bU,ap]];exact asz ⟨h1,cu,cS,c5,dz,dz,mn,nj,od,pb,wv,yq,(by grind[ap,ay]),(by grind[ap,ay]),(bH a' G'),(by grind[ap,ay]),(by grind[ap,ay]),(bH a' Ha),FQ,aa⟩
            | false=>
             rcases gO x ag with⟨cw,l⟩ | ⟨cw,l⟩
             ·skip
              rw[show aL x=false from by grind[aL,bL,bU,ap]];exact asA ⟨h1,cu,cS,c5,dz,dz,mn,nj,od,pb,wv,yq,(by grind[ap,ay]),(by grind[ap,ay]),(bH a' G'),(by grind[ap,ay]),(by grind[ap,ay]),(bH a' Ha),FQ,l,aa⟩
             skip
             rw[show aL x=true from by grind[aL,bL,bU,ap]];exact asB ⟨h1,cu,cS,c5,dz,dz,mn,nj,od,pb,wv,yq,(by grind[ap,ay]),(by grind[ap,ay]),(bH a' G'),(by grind[ap,ay]),(by grind[ap,ay]),(bH a' Ha),FQ,l,aa⟩
           | false=>
            rcases gO x ag with⟨cw,l⟩ | ⟨cw,l⟩
            ·skip
             rw[show aL x=false from by grind[aL,bL,bU,ap]];exact asC ⟨h1,cu,cS,c5,dz,dz,mn,nj,od,pb,wv,yq,l,aa⟩
            skip
            rw[show aL x=true from by grind[aL,bL,bU,ap]];exact asD ⟨h1,cu,cS,c5,dz,dz,mn,nj,od,pb,wv,yq,l,aa⟩
         | false=>
          cases yr:((↑(x.outs.map a').length:Int)==2) with
          | true=>
           obtain⟨atn,Hb⟩:=c0 (xs:=x.outs) (i:=0) (by grind[ap,ay]);obtain⟨ato,Hc⟩:=c0 (xs:=x.outs) (i:=1) (by grind[ap,ay]);cases FR:(atn==ato) with
           | true=>
            rw[show aL x=false from by grind[aL,bL,bU,ap]];exact asE ⟨h1,cu,cS,c5,dz,dz,mn,nj,od,pb,yr,(by grind[ap,ay]),(by grind[ap,ay]),(bH a' Hb),(by grind[ap,ay]),(by grind[ap,ay]),(bH a' Hc),FR,aa⟩
           | false=>
            rcases gO x ag with⟨cw,l⟩ | ⟨cw,l⟩
            ·skip
             rw[show aL x=false from by grind[aL,bL,bU,ap]];exact asF ⟨h1,cu,cS,c5,dz,dz,mn,nj,od,pb,yr,(by grind[ap,ay]),(by grind[ap,ay]),(bH a' Hb),(by grind[ap,ay]),(by grind[ap,ay]),(bH a' Hc),FR,l,aa⟩
            skip
            rw[show aL x=true from by grind[aL,bL,bU,ap]];exact asG ⟨h1,cu,cS,c5,dz,dz,mn,nj,od,pb,yr,(by grind[ap,ay]),(by grind[ap,ay]),(bH a' Hb),(by grind[ap,ay]),(by grind[ap,ay]),(bH a' Hc),FR,l,aa⟩
          | false=>
           rcases gO x ag with⟨cw,l⟩ | ⟨cw,l⟩
           ·skip
            rw[show aL x=false from by grind[aL,bL,bU,ap]];exact arQ ⟨h1,cu,cS,c5,dz,dz,mn,nj,od,pb,yr,l,aa⟩
           skip
           rw[show aL x=true from by grind[aL,bL,bU,ap]];exact arR ⟨h1,cu,cS,c5,dz,dz,mn,nj,od,pb,yr,l,aa⟩
     | false=>
      cases ej:(x.kind==6) with
      | true=>
       cases mo:(x.a != 0) with
       | true=>
        rw[show aL x=false from by grind[aL,bL,bU,ap]];exact arS ⟨h1,cu,cS,c5,dz,ej,ej,mo,aa⟩
       | false=>
        cases nm:(x.b != 0) with
        | true=>
         rw[show aL x=false from by grind[aL,bL,bU,ap]];exact arT ⟨h1,cu,cS,c5,dz,ej,ej,mo,nm,aa⟩
        | false=>
         cases oe:(decide ((↑(x.outs.map a').length:Int)>2)) with
         | true=>
          rw[show aL x=false from by grind[aL,bL,bU,ap]];exact arU ⟨h1,cu,cS,c5,dz,ej,ej,mo,nm,oe,aa⟩
         | false=>
          cases pc:(x.kind==8) with
          | true=>
           cases ww:(decide ((↑(x.outs.map a').length:Int)>0)) with
           | true=>
            rw[show aL x=false from by grind[aL,bL,bU,ap]];exact arV ⟨h1,cu,cS,c5,dz,ej,ej,mo,nm,oe,pc,ww,aa⟩
           | false=>
            cases yt:((↑(x.outs.map a').length:Int)==2) with
            | true=>
             obtain⟨atp,Hd⟩:=c0 (xs:=x.outs) (i:=0) (by grind[ap,ay]);obtain⟨atq,He⟩:=c0 (xs:=x.outs) (i:=1) (by grind[ap,ay]);cases FT:(atp==atq) with
             | true=>
              rw[show aL x=false from by grind[aL,bL,bU,ap]];exact arW ⟨h1,cu,cS,c5,dz,ej,ej,mo,nm,oe,pc,ww,yt,(by grind[ap,ay]),(by grind[ap,ay]),(bH a' Hd),(by grind[ap,ay]),(by grind[ap,ay]),(bH a' He),FT,aa⟩
             | false=>
              rcases gO x ag with⟨cw,l⟩ | ⟨cw,l⟩
              ·skip
               rw[show aL x=false from by grind[aL,bL,bU,ap]];exact arX ⟨h1,cu,cS,c5,dz,ej,ej,mo,nm,oe,pc,ww,yt,(by grind[ap,ay]),(by grind[ap,ay]),(bH a' Hd),(by grind[ap,ay]),(by grind[ap,ay]),(bH a' He),FT,l,aa⟩
              skip
              rw[show aL x=true from by grind[aL,bL,bU,ap]];exact arY ⟨h1,cu,cS,c5,dz,ej,ej,mo,nm,oe,pc,ww,yt,(by grind[ap,ay]),(by grind[ap,ay]),(bH a' Hd),(by grind[ap,ay]),(by grind[ap,ay]),(bH a' He),FT,l,aa⟩
            | false=>
             rcases gO x ag with⟨cw,l⟩ | ⟨cw,l⟩
             ·skip
              rw[show aL x=false from by grind[aL,bL,bU,ap]];exact arZ ⟨h1,cu,cS,c5,dz,ej,ej,mo,nm,oe,pc,ww,yt,l,aa⟩
             skip
             rw[show aL x=true from by grind[aL,bL,bU,ap]];exact ar0 ⟨h1,cu,cS,c5,dz,ej,ej,mo,nm,oe,pc,ww,yt,l,aa⟩
          | false=>
           cases yu:((↑(x.outs.map a').length:Int)==2) with
           | true=>
            obtain⟨atr,Hf⟩:=c0 (xs:=x.outs) (i:=0) (by grind[ap,ay]);obtain⟨ats,Hg⟩:=c0 (xs:=x.outs) (i:=1) (by grind[ap,ay]);cases FU:(atr==ats) with
            | true=>
             rw[show aL x=false from by grind[aL,bL,bU,ap]];exact ar1 ⟨h1,cu,cS,c5,dz,ej,ej,mo,nm,oe,pc,yu,(by grind[ap,ay]),(by grind[ap,ay]),(bH a' Hf),(by grind[ap,ay]),(by grind[ap,ay]),(bH a' Hg),FU,aa⟩
            | false=>
             rcases gO x ag with⟨cw,l⟩ | ⟨cw,l⟩
             ·skip
              rw[show aL x=false from by grind[aL,bL,bU,ap]];exact ar2 ⟨h1,cu,cS,c5,dz,ej,ej,mo,nm,oe,pc,yu,(by grind[ap,ay]),(by grind[ap,ay]),(bH a' Hf),(by grind[ap,ay]),(by grind[ap,ay]),(bH a' Hg),FU,l,aa⟩
             skip
             rw[show aL x=true from by grind[aL,bL,bU,ap]];exact ar3 ⟨h1,cu,cS,c5,dz,ej,ej,mo,nm,oe,pc,yu,(by grind[ap,ay]),(by grind[ap,ay]),(bH a' Hf),(by grind[ap,ay]),(by grind[ap,ay]),(bH a' Hg),FU,l,aa⟩
           | false=>
            rcases gO x ag with⟨cw,l⟩ | ⟨cw,l⟩
            ·skip
             rw[show aL x=false from by grind[aL,bL,bU,ap]];exact ar4 ⟨h1,cu,cS,c5,dz,ej,ej,mo,nm,oe,pc,yu,l,aa⟩
            skip
            rw[show aL x=true from by grind[aL,bL,bU,ap]];exact ar5 ⟨h1,cu,cS,c5,dz,ej,ej,mo,nm,oe,pc,yu,l,aa⟩
      | false=>
       cases fv:(x.kind==7) with
       | true=>
        cases mq:(x.a != 0) with
        | true=>
         rw[show aL x=false from by grind[aL,bL,bU,ap]];exact ar6 ⟨h1,cu,cS,c5,dz,ej,fv,fv,mq,aa⟩
        | false=>
         cases nn:(x.b != 0) with
         | true=>
          rw[show aL x=false from by grind[aL,bL,bU,ap]];exact ar7 ⟨h1,cu,cS,c5,dz,ej,fv,fv,mq,nn,aa⟩
         | false=>
          cases og:(decide ((↑(x.outs.map a').length:Int)>2)) with
          | true=>
           rw[show aL x=false from by grind[aL,bL,bU,ap]];exact ar8 ⟨h1,cu,cS,c5,dz,ej,fv,fv,mq,nn,og,aa⟩
          | false=>
           cases pd:(x.kind==8) with
           | true=>
            cases wx:(decide ((↑(x.outs.map a').length:Int)>0)) with
            | true=>
             rw[show aL x=false from by grind[aL,bL,bU,ap]];exact ar9 ⟨h1,cu,cS,c5,dz,ej,fv,fv,mq,nn,og,pd,wx,aa⟩
            | false=>
             cases yv:((↑(x.outs.map a').length:Int)==2) with
             | true=>
              obtain⟨att,Hh⟩:=c0 (xs:=x.outs) (i:=0) (by grind[ap,ay]);obtain⟨atu,Hi⟩:=c0 (xs:=x.outs) (i:=1) (by grind[ap,ay]);cases FV:(att==atu) with
              | true=>
               rw[show aL x=false from by grind[aL,bL,bU,ap]];exact asa ⟨h1,cu,cS,c5,dz,ej,fv,fv,mq,nn,og,pd,wx,yv,(by grind[ap,ay]),(by grind[ap,ay]),(bH a' Hh),(by grind[ap,ay]),(by grind[ap,ay]),(bH a' Hi),FV,aa⟩
              | false=>
               rcases gO x ag with⟨cw,l⟩ | ⟨cw,l⟩
               ·skip
                rw[show aL x=false from by grind[aL,bL,bU,ap]];exact asb ⟨h1,cu,cS,c5,dz,ej,fv,fv,mq,nn,og,pd,wx,yv,(by grind[ap,ay]),(by grind[ap,ay]),(bH a' Hh),(by grind[ap,ay]),(by grind[ap,ay]),(bH a' Hi),FV,l,aa⟩
               skip
               rw[show aL x=true from by grind[aL,bL,bU,ap]];exact asc ⟨h1,cu,cS,c5,dz,ej,fv,fv,mq,nn,og,pd,wx,yv,(by grind[ap,ay]),(by grind[ap,ay]),(bH a' Hh),(by grind[ap,ay]),(by grind[ap,ay]),(bH a' Hi),FV,l,aa⟩
             | false=>
              rcases gO x ag with⟨cw,l⟩ | ⟨cw,l⟩
              ·skip
               rw[show aL x=false from by grind[aL,bL,bU,ap]];exact asd ⟨h1,cu,cS,c5,dz,ej,fv,fv,mq,nn,og,pd,wx,yv,l,aa⟩
              skip
              rw[show aL x=true from by grind[aL,bL,bU,ap]];exact ase ⟨h1,cu,cS,c5,dz,ej,fv,fv,mq,nn,og,pd,wx,yv,l,aa⟩
           | false=>
            cases yw:((↑(x.outs.map a').length:Int)==2) with
            | true=>
             obtain⟨as9,GO⟩:=c0 (xs:=x.outs) (i:=0) (by grind[ap,ay]);obtain⟨ata,GQ⟩:=c0 (xs:=x.outs) (i:=1) (by grind[ap,ay]);cases FJ:(as9==ata) with
             | true=>
              rw[show aL x=false from by grind[aL,bL,bU,ap]];exact asf ⟨h1,cu,cS,c5,dz,ej,fv,fv,mq,nn,og,pd,yw,(by grind[ap,ay]),(by grind[ap,ay]),(bH a' GO),(by grind[ap,ay]),(by grind[ap,ay]),(bH a' GQ),FJ,aa⟩
             | false=>
              rcases gO x ag with⟨cw,l⟩ | ⟨cw,l⟩
              ·skip
               rw[show aL x=false from by grind[aL,bL,bU,ap]];exact arG ⟨h1,cu,cS,c5,dz,ej,fv,fv,mq,nn,og,pd,yw,(by grind[ap,ay]),(by grind[ap,ay]),(bH a' GO),(by grind[ap,ay]),(by grind[ap,ay]),(bH a' GQ),FJ,l,aa⟩
              skip
              rw[show aL x=true from by grind[aL,bL,bU,ap]];exact arH ⟨h1,cu,cS,c5,dz,ej,fv,fv,mq,nn,og,pd,yw,(by grind[ap,ay]),(by grind[ap,ay]),(bH a' GO),(by grind[ap,ay]),(by grind[ap,ay]),(bH a' GQ),FJ,l,aa⟩
            | false=>
             rcases gO x ag with⟨cw,l⟩ | ⟨cw,l⟩
             ·skip
              rw[show aL x=false from by grind[aL,bL,bU,ap]];exact arI ⟨h1,cu,cS,c5,dz,ej,fv,fv,mq,nn,og,pd,yw,l,aa⟩
             skip
             rw[show aL x=true from by grind[aL,bL,bU,ap]];exact arJ ⟨h1,cu,cS,c5,dz,ej,fv,fv,mq,nn,og,pd,yw,l,aa⟩
       | false=>
        cases la:(x.kind==8) with
        | true=>
         cases rk:(x.a != 0) with
         | true=>
          rw[show aL x=false from by grind[aL,bL,bU,ap]];exact arK ⟨h1,cu,cS,c5,dz,ej,fv,la,rk,aa⟩
         | false=>
          cases sL:(x.b != 0) with
          | true=>
           rw[show aL x=false from by grind[aL,bL,bU,ap]];exact arL ⟨h1,cu,cS,c5,dz,ej,fv,la,rk,sL,aa⟩
          | false=>
           cases uz:(decide ((↑(x.outs.map a').length:Int)>2)) with
           | true=>
            rw[show aL x=false from by grind[aL,bL,bU,ap]];exact arM ⟨h1,cu,cS,c5,dz,ej,fv,la,rk,sL,uz,aa⟩
           | false=>
            cases wm:(decide ((↑(x.outs.map a').length:Int)>0)) with
            | true=>
             rw[show aL x=false from by grind[aL,bL,bU,ap]];exact arN ⟨h1,cu,cS,c5,dz,ej,fv,la,rk,sL,uz,la,wm,aa⟩
            | false=>
             cases yk:((↑(x.outs.map a').length:Int)==2) with
             | true=>
              obtain⟨atb,GR⟩:=c0 (xs:=x.outs) (i:=0) (by grind[ap,ay]);obtain⟨atc,GU⟩:=c0 (xs:=x.outs) (i:=1) (by grind[ap,ay]);cases FK:(atb==atc) with
              | true=>
               rw[show aL x=false from by grind[aL,bL,bU,ap]];exact arO ⟨h1,cu,cS,c5,dz,ej,fv,la,rk,sL,uz,la,wm,yk,(by grind[ap,ay]),(by grind[ap,ay]),(bH a' GR),(by grind[ap,ay]),(by grind[ap,ay]),(bH a' GU),FK,aa⟩
              | false=>
               rcases gO x ag with⟨cw,l⟩ | ⟨cw,l⟩
               ·skip
                rw[show aL x=false from by grind[aL,bL,bU,ap]];exact arP ⟨h1,cu,cS,c5,dz,ej,fv,la,rk,sL,uz,la,wm,yk,(by grind[ap,ay]),(by grind[ap,ay]),(bH a' GR),(by grind[ap,ay]),(by grind[ap,ay]),(bH a' GU),FK,l,aa⟩
               skip
               rw[show aL x=true from by grind[aL,bL,bU,ap]];exact Zs ⟨h1,cu,cS,c5,dz,ej,fv,la,rk,sL,uz,la,wm,yk,(by grind[ap,ay]),(by grind[ap,ay]),(bH a' GR),(by grind[ap,ay]),(by grind[ap,ay]),(bH a' GU),FK,l,aa⟩
             | false=>
              rcases gO x ag with⟨cw,l⟩ | ⟨cw,l⟩
              ·skip
               rw[show aL x=false from by grind[aL,bL,bU,ap]];exact Zt ⟨h1,cu,cS,c5,dz,ej,fv,la,rk,sL,uz,la,wm,yk,l,aa⟩
              skip
              rw[show aL x=true from by grind[aL,bL,bU,ap]];exact Zu ⟨h1,cu,cS,c5,dz,ej,fv,la,rk,sL,uz,la,wm,yk,l,aa⟩
        | false=>
         rw[show aL x=false from by grind[aL,bL,bU,ap]];exact Zv ⟨h1,cu,cS,c5,dz,ej,fv,la,aa⟩
