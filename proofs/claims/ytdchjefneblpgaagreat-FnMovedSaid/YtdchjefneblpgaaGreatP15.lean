import Derived.Test.YtdchjefneblpgaaGreatP21
import Derived.Test.YtdchjefneblpgaaGreatGQ
import Derived.Test.YtdchjefneblpgaaGreatGR
set_option linter.unusedVariables false
set_option linter.unusedSimpArgs false
namespace Go.Proofs.YtdchjefneblpgaaGreat
open Go.Sx Go.RowKit Go.Proofs.Tryz
def iM(s:gr):Bool:=ap s.bf 0 3&&ap s.dS 0 6
def f'(k v:Int):Bool:=ap k 0 99&&ap v 0 999
def fe(r:aA):Bool:=ap r.op 0 7&&iM r.bx&&f' r.key r.val
def gV(s:gr):gr×Bool:=if iM s&&decide (s.dS<6) then (⟨s.bf,s.dS+1⟩,true) else (s,false)
def less(a b:Int):Int:=if b<a then b else a
def bP(x:Node):Bool:=
 if x.kind=2 then ap x.a 0 999&&x.b==0
 else if x.kind=3 then ap x.a 1 10&&ap x.b 0 (IntKind.i64.wrap (x.a-1))
 else if x.kind=4 then ap x.a 0 99&&x.b==0
 else ap x.kind 1 8&&x.a==0&&x.b==0
def mF(l:List Int):Bool:=!(l.any fun k=>!ap k 0 7)
def bS(l:List Int):Bool:=decide (l.length=2/\l[0]?=l[1]?)
def aL(x:Node):Bool:=bP x&&decide (x.outs.length<=2)&&!(x.kind==8&&decide (0<x.outs.length))&&!bS x.outs&&mF x.outs
theorem look{α:Type}{xs:List α}{i:Int}(bJ:0<=i)(h1:i<xs.length):∃a,xs[i.toNat]?=some a:=cY (by omega)
theorem bM{α:Type}{xs:List α}{i:Nat}{a:α}(f:α->List D)(h:xs[i]?=some a):(xs.map f)[i]?=some (f a):=by simp[h]
theorem gI(x:Node)(ag:x.outs.length<=8388608):(mF x.outs=false/\c0 prog (ar f273 0) (dr (x.outs.map a8) 0) .ret (fZ false))\/(mF x.outs=true/\c0 prog (ar f273 0) (dr (x.outs.map a8) 0) (.exit 1) gk):=by
 have l:=hh (P:=prog) (c:=(ar f273 0)) x.outs (fun k=>!ap k 0 7) (fun i=>dr (x.outs.map a8) i) (X:=fun _ _=>fZ false) fi (cM 1)
  (fun i a aj h=>aqD ⟨cf (a6 aj),bG,bL (a6 aj),bF a8 aj,kf a 0 7,h,dw (a6 aj) ag,aa⟩)
  (fun i a aj h=>aqC ⟨cf (a6 aj),bG,bL (a6 aj),bF a8 aj,kf a 0 7,h,aa⟩)
  (aqE ⟨dU,aa⟩)
 unfold mF;rcases l with⟨_,_,h1,U⟩ | ⟨i,a,_,_,_,_,h1,U⟩
 ·exact .inr ⟨by rw[h1];rfl,U⟩
 exact .inl ⟨by rw[h1];rfl,U⟩
theorem tJ(x:Node)(ag:x.outs.length<=2):((mF x.outs&&!bS x.outs)=false/\c0 prog (ar f243 0) (hE x.kind x.a x.b (x.outs.map a8) 0) .ret (p3 false))\/((mF x.outs&&!bS x.outs)=true/\c0 prog (ar f243 0) (hE x.kind x.a x.b (x.outs.map a8) 0) (.exit 1) qQ):=by
 obtain⟨N9,a,b,outs⟩:=x;have cl:=fun k=>ia k 0 7
 match outs,ag with
 | [],_=>exact .inr ⟨rfl,.last (cM 1) (JF ⟨rfl,aa⟩)⟩
 | [k],_=>
  cases h1:ap k 0 7 with
  | false=>exact .inl ⟨by simp[mF,h1],.last fi (JE ⟨rfl,by omega,by simp,rfl,cl k,by rw[h1];rfl,aa⟩)⟩
  | true=>
   refine .inr ⟨by simp[mF,bS,h1],.more (QQ ⟨rfl,by omega,by simp,rfl,cl k,by rw[h1];rfl,rfl,⟨by omega,by omega⟩,aa⟩) (.last (cM 1) (JF ⟨rfl,aa⟩))⟩
 | [k,m],_=>
  cases h1:ap k 0 7 with
  | false=>exact .inl ⟨by simp[mF,h1],.last fi (JE ⟨rfl,by omega,by simp,rfl,cl k,by rw[h1];rfl,aa⟩)⟩
  | true=>
   have first:fz prog (ar f243 0) (hE N9 a b ([k,m].map a8) 0) .normal (hE N9 a b ([k,m].map a8) (0+1)):=QQ ⟨rfl,by omega,by simp,rfl,cl k,by rw[h1];rfl,rfl,⟨by omega,by omega⟩,aa⟩
   cases U:ap m 0 7 with
   | false=>exact .inl ⟨by simp[mF,h1,U],.more first (.last fi (JE ⟨rfl,by omega,by simp,rfl,cl m,by rw[U];rfl,aa⟩))⟩
   | true=>
    cases ax:(k==m) with
    | true=>exact .inl ⟨by simp[mF,bS,h1,U]at ax ⊢;exact ax,.more first (.last fi (ap0 ⟨rfl,by omega,by simp,rfl,cl m,by rw[U];rfl,rfl,by omega,by simp,rfl,by omega,by simp,rfl,ax,aa⟩))⟩
    | false=>exact .inr ⟨by simp[mF,bS,h1,U]at ax ⊢;exact ax,.more first (.more (apa ⟨rfl,by omega,by simp,rfl,cl m,by rw[U];rfl,rfl,by omega,by simp,rfl,by omega,by simp,rfl,ax,⟨by omega,by omega⟩,aa⟩) (.last (cM 1) (JF ⟨rfl,aa⟩)))⟩
theorem QR(s:gr):av 244 [.agg s.e] [.one (B (iM s))]:=by
 have c1:=ia s.bf 0 3;cases U:(ap s.bf 0 3) with
 | true=>
  have cR:=ia s.dS 0 6;rw[show iM s=ap s.dS 0 6 from by grind[iM]];exact apD ⟨c1,U,cR,aa⟩
 | false=>
  rw[show iM s=false from by grind[iM]];exact apE ⟨c1,U,aa⟩
theorem arx(s:gr):av 274 [.agg s.e] [.one (B (iM s))]:=by
 have c1:=kf s.bf 0 3;cases U:(ap s.bf 0 3) with
 | true=>
  have cR:=kf s.dS 0 6;rw[show iM s=ap s.dS 0 6 from by grind[iM]];exact apF ⟨c1,U,cR,aa⟩
 | false=>
  rw[show iM s=false from by grind[iM]];exact apG ⟨c1,U,aa⟩
theorem ary(k v:Int):av 275 [.one (I k),.one (I v)] [.one (B (f' k v))]:=by
 have c1:=kf k 0 99;cases U:(ap k 0 99) with
 | true=>
  have cR:=kf v 0 999;rw[show f' k v=ap v 0 999 from by grind[f']];exact apT ⟨c1,U,cR,aa⟩
 | false=>
  rw[show f' k v=false from by grind[f']];exact apU ⟨c1,U,aa⟩
theorem si(r:aA):av 122 [.agg r.e] [.one (B (fe r))]:=by
 have c1:=ia r.op 0 7;cases U:(ap r.op 0 7) with
 | true=>
  have cR:=QR r.bx;cases aK:(iM r.bx) with
  | true=>
   have h3:=ia r.key 0 99;cases bw:(ap r.key 0 99) with
   | true=>
    have Wc:=ia r.val 0 999;rw[show fe r=ap r.val 0 999 from by grind[fe,f']];exact an5 ⟨c1,U,cR,aK,h3,bw,Wc,aa⟩
   | false=>
    rw[show fe r=false from by grind[fe,f']];exact an6 ⟨c1,U,cR,aK,h3,bw,aa⟩
  | false=>
   rw[show fe r=false from by grind[fe,f']];exact an7 ⟨c1,U,cR,aK,aa⟩
 | false=>
  rw[show fe r=false from by grind[fe,f']];exact an8 ⟨c1,U,aa⟩
theorem Av(r:aA):av 180 [.agg r.e] [.one (B (fe r))]:=by
 have c1:=kf r.op 0 7;cases U:(ap r.op 0 7) with
 | true=>
  have cR:=arx r.bx;cases aK:(iM r.bx) with
  | true=>
   have h3:=ary r.key r.val;rw[show fe r=f' r.key r.val from by grind[fe,f']];exact an9 ⟨c1,U,cR,aK,h3,aa⟩
  | false=>
   rw[show fe r=false from by grind[fe,f']];exact apB ⟨c1,U,cR,aK,aa⟩
 | false=>
  rw[show fe r=false from by grind[fe,f']];exact apC ⟨c1,U,aa⟩
theorem xJ(s:gr):av 270 [.agg s.e] [.agg ((gV s).1).e,.one (B ((gV s).2))]:=by
 have c1:=QR s;cases U:(iM s) with
 | true=>
  cases ax:(decide (s.dS>=6)) with
  | true=>
   rw[show gV s=(s,false) from by grind[gV,iM,ap]];exact apI ⟨c1,(by rw[U];rfl),ax,aa⟩
  | false=>
   rw[show gV s=((⟨s.bf,s.dS+1⟩:gr),true) from by grind[gV,iM,ap]];exact apJ ⟨c1,(by rw[U];rfl),ax,(by grind[iM,ap,az]),aa⟩
 | false=>
  rw[show gV s=(s,false) from by grind[gV,iM,ap]];exact apH ⟨c1,(by rw[U];rfl),aa⟩
theorem arz(a b:Int):av 323 [.one (I a),.one (I b)] [.one (I (less a b))]:=by
 cases h1:(decide (b<a)) with
 | true=>
  rw[show less a b=b from by grind[less]];exact apR ⟨h1,aa⟩
 | false=>
  rw[show less a b=a from by grind[less]];exact apS ⟨h1,aa⟩
theorem QS(x:Node)(ag:x.outs.length<=8388608):av 243 [.agg x.e] [.one (B (aL x))]:=by
 cases h1:(x.kind==2) with
 | true=>
  have c2:=ia x.a 0 999;have cR:=ia x.kind 1 8;cases aK:(ap x.kind 1 8) with
  | true=>
   cases aV:(ap x.a 0 999) with
   | true=>
    cases bw:(x.b==0) with
    | true=>
     cases bX:(decide ((↑(x.outs.map a8).length:Int)>2)) with
     | true=>
      rw[show aL x=false from by grind[aL,bP,bS,ap]];exact apY ⟨h1,c2,cR,(by rw[aK];rfl),(by rw[aV];rfl),(by rw[bw];rfl),bX,aa⟩
     | false=>
      cases c8:(x.kind==8) with
      | true=>
       cases ed:(decide ((↑(x.outs.map a8).length:Int)>0)) with
       | true=>
        rw[show aL x=false from by grind[aL,bP,bS,ap]];exact apZ ⟨h1,c2,cR,(by rw[aK];rfl),(by rw[aV];rfl),(by rw[bw];rfl),bX,c8,ed,aa⟩
       | false=>
        rcases tJ x (by grind) with⟨cz,l⟩ | ⟨cz,l⟩
        ·skip
         rw[show aL x=false from by grind[aL,bP,bS,ap]];exact apb ⟨h1,c2,cR,(by rw[aK];rfl),(by rw[aV];rfl),(by rw[bw];rfl),bX,c8,ed,l,aa⟩
        skip
        rw[show aL x=true from by grind[aL,bP,bS,ap]];exact apc ⟨h1,c2,cR,(by rw[aK];rfl),(by rw[aV];rfl),(by rw[bw];rfl),bX,c8,ed,l,aa⟩
      | false=>
       rcases tJ x (by grind) with⟨cz,l⟩ | ⟨cz,l⟩
       ·skip
        rw[show aL x=false from by grind[aL,bP,bS,ap]];exact apd ⟨h1,c2,cR,(by rw[aK];rfl),(by rw[aV];rfl),(by rw[bw];rfl),bX,c8,l,aa⟩
       skip
       rw[show aL x=true from by grind[aL,bP,bS,ap]];exact ape ⟨h1,c2,cR,(by rw[aK];rfl),(by rw[aV];rfl),(by rw[bw];rfl),bX,c8,l,aa⟩
    | false=>
     rw[show aL x=false from by grind[aL,bP,bS,ap]];exact apX ⟨h1,c2,cR,(by rw[aK];rfl),(by rw[aV];rfl),(by rw[bw];rfl),aa⟩
   | false=>
    rw[show aL x=false from by grind[aL,bP,bS,ap]];exact apW ⟨h1,c2,cR,(by rw[aK];rfl),(by rw[aV];rfl),aa⟩
  | false=>
   rw[show aL x=false from by grind[aL,bP,bS,ap]];exact apV ⟨h1,c2,cR,(by rw[aK];rfl),aa⟩
 | false=>
  cases dK:(x.kind==3) with
  | true=>
   have rq:=ia x.a 1 10;have nf:=ia x.b 0 (IntKind.i64.wrap (x.a-1));have oe:=ia x.kind 1 8;cases kG:(ap x.kind 1 8) with
   | true=>
    cases kH:(ap x.a 1 10) with
    | true=>
     cases cy:(ap x.b 0 (IntKind.i64.wrap (x.a-1))) with
     | true=>
      cases qq:(decide ((↑(x.outs.map a8).length:Int)>2)) with
      | true=>
       rw[show aL x=false from by grind[aL,bP,bS,ap]];exact api ⟨h1,dK,rq,nf,oe,(by rw[kG];rfl),(by rw[kH];rfl),(by rw[cy];rfl),qq,aa⟩
      | false=>
       cases gE:(x.kind==8) with
       | true=>
        cases FN:(decide ((↑(x.outs.map a8).length:Int)>0)) with
        | true=>
         rw[show aL x=false from by grind[aL,bP,bS,ap]];exact apj ⟨h1,dK,rq,nf,oe,(by rw[kG];rfl),(by rw[kH];rfl),(by rw[cy];rfl),qq,gE,FN,aa⟩
        | false=>
         rcases tJ x (by grind) with⟨cz,l⟩ | ⟨cz,l⟩
         ·skip
          rw[show aL x=false from by grind[aL,bP,bS,ap]];exact apk ⟨h1,dK,rq,nf,oe,(by rw[kG];rfl),(by rw[kH];rfl),(by rw[cy];rfl),qq,gE,FN,l,aa⟩
         skip
         rw[show aL x=true from by grind[aL,bP,bS,ap]];exact apl ⟨h1,dK,rq,nf,oe,(by rw[kG];rfl),(by rw[kH];rfl),(by rw[cy];rfl),qq,gE,FN,l,aa⟩
       | false=>
        rcases tJ x (by grind) with⟨cz,l⟩ | ⟨cz,l⟩
        ·skip
         rw[show aL x=false from by grind[aL,bP,bS,ap]];exact apm ⟨h1,dK,rq,nf,oe,(by rw[kG];rfl),(by rw[kH];rfl),(by rw[cy];rfl),qq,gE,l,aa⟩
        skip
        rw[show aL x=true from by grind[aL,bP,bS,ap]];exact apn ⟨h1,dK,rq,nf,oe,(by rw[kG];rfl),(by rw[kH];rfl),(by rw[cy];rfl),qq,gE,l,aa⟩
     | false=>
      rw[show aL x=false from by grind[aL,bP,bS,ap]];exact aph ⟨h1,dK,rq,nf,oe,(by rw[kG];rfl),(by rw[kH];rfl),(by rw[cy];rfl),aa⟩
    | false=>
     rw[show aL x=false from by grind[aL,bP,bS,ap]];exact apg ⟨h1,dK,rq,nf,oe,(by rw[kG];rfl),(by rw[kH];rfl),aa⟩
   | false=>
    rw[show aL x=false from by grind[aL,bP,bS,ap]];exact apf ⟨h1,dK,rq,nf,oe,(by rw[kG];rfl),aa⟩
  | false=>
   cases eS:(x.kind==4) with
   | true=>
    have mi:=ia x.a 0 99;have rr:=ia x.kind 1 8;cases jo:(ap x.kind 1 8) with
    | true=>
     cases mq:(ap x.a 0 99) with
     | true=>
      cases pk:(x.b==0) with
      | true=>
       cases po:(decide ((↑(x.outs.map a8).length:Int)>2)) with
       | true=>
        rw[show aL x=false from by grind[aL,bP,bS,ap]];exact aps ⟨h1,dK,eS,mi,rr,(by rw[jo];rfl),(by rw[mq];rfl),(by rw[pk];rfl),po,aa⟩
       | false=>
        cases rF:(x.kind==8) with
        | true=>
         cases nm:(decide ((↑(x.outs.map a8).length:Int)>0)) with
         | true=>
          rw[show aL x=false from by grind[aL,bP,bS,ap]];exact apt ⟨h1,dK,eS,mi,rr,(by rw[jo];rfl),(by rw[mq];rfl),(by rw[pk];rfl),po,rF,nm,aa⟩
         | false=>
          rcases tJ x (by grind) with⟨cz,l⟩ | ⟨cz,l⟩
          ·skip
           rw[show aL x=false from by grind[aL,bP,bS,ap]];exact apu ⟨h1,dK,eS,mi,rr,(by rw[jo];rfl),(by rw[mq];rfl),(by rw[pk];rfl),po,rF,nm,l,aa⟩
          skip
          rw[show aL x=true from by grind[aL,bP,bS,ap]];exact apv ⟨h1,dK,eS,mi,rr,(by rw[jo];rfl),(by rw[mq];rfl),(by rw[pk];rfl),po,rF,nm,l,aa⟩
        | false=>
         rcases tJ x (by grind) with⟨cz,l⟩ | ⟨cz,l⟩
         ·skip
          rw[show aL x=false from by grind[aL,bP,bS,ap]];exact apw ⟨h1,dK,eS,mi,rr,(by rw[jo];rfl),(by rw[mq];rfl),(by rw[pk];rfl),po,rF,l,aa⟩
         skip
         rw[show aL x=true from by grind[aL,bP,bS,ap]];exact apx ⟨h1,dK,eS,mi,rr,(by rw[jo];rfl),(by rw[mq];rfl),(by rw[pk];rfl),po,rF,l,aa⟩
      | false=>
       rw[show aL x=false from by grind[aL,bP,bS,ap]];exact apr ⟨h1,dK,eS,mi,rr,(by rw[jo];rfl),(by rw[mq];rfl),(by rw[pk];rfl),aa⟩
     | false=>
      rw[show aL x=false from by grind[aL,bP,bS,ap]];exact apq ⟨h1,dK,eS,mi,rr,(by rw[jo];rfl),(by rw[mq];rfl),aa⟩
    | false=>
     rw[show aL x=false from by grind[aL,bP,bS,ap]];exact apo ⟨h1,dK,eS,mi,rr,(by rw[jo];rfl),aa⟩
   | false=>
    have ru:=ia x.kind 1 8;cases rG:(ap x.kind 1 8) with
    | true=>
     cases om:(x.a==0) with
     | true=>
      cases cP:(x.b==0) with
      | true=>
       cases wA:(decide ((↑(x.outs.map a8).length:Int)>2)) with
       | true=>
        rw[show aL x=false from by grind[aL,bP,bS,ap]];exact ao0 ⟨h1,dK,eS,ru,(by rw[rG];rfl),(by rw[om];rfl),(by rw[cP];rfl),wA,aa⟩
       | false=>
        cases jQ:(x.kind==8) with
        | true=>
         cases kJ:(decide ((↑(x.outs.map a8).length:Int)>0)) with
         | true=>
          rw[show aL x=false from by grind[aL,bP,bS,ap]];exact ao1 ⟨h1,dK,eS,ru,(by rw[rG];rfl),(by rw[om];rfl),(by rw[cP];rfl),wA,jQ,kJ,aa⟩
         | false=>
          rcases tJ x (by grind) with⟨cz,l⟩ | ⟨cz,l⟩
          ·skip
           rw[show aL x=false from by grind[aL,bP,bS,ap]];exact ao2 ⟨h1,dK,eS,ru,(by rw[rG];rfl),(by rw[om];rfl),(by rw[cP];rfl),wA,jQ,kJ,l,aa⟩
          skip
          rw[show aL x=true from by grind[aL,bP,bS,ap]];exact ao3 ⟨h1,dK,eS,ru,(by rw[rG];rfl),(by rw[om];rfl),(by rw[cP];rfl),wA,jQ,kJ,l,aa⟩
        | false=>
         rcases tJ x (by grind) with⟨cz,l⟩ | ⟨cz,l⟩
         ·skip
          rw[show aL x=false from by grind[aL,bP,bS,ap]];exact ao4 ⟨h1,dK,eS,ru,(by rw[rG];rfl),(by rw[om];rfl),(by rw[cP];rfl),wA,jQ,l,aa⟩
         skip
         rw[show aL x=true from by grind[aL,bP,bS,ap]];exact ao5 ⟨h1,dK,eS,ru,(by rw[rG];rfl),(by rw[om];rfl),(by rw[cP];rfl),wA,jQ,l,aa⟩
      | false=>
       rw[show aL x=false from by grind[aL,bP,bS,ap]];exact apA ⟨h1,dK,eS,ru,(by rw[rG];rfl),(by rw[om];rfl),(by rw[cP];rfl),aa⟩
     | false=>
      rw[show aL x=false from by grind[aL,bP,bS,ap]];exact apz ⟨h1,dK,eS,ru,(by rw[rG];rfl),(by rw[om];rfl),aa⟩
    | false=>
     rw[show aL x=false from by grind[aL,bP,bS,ap]];exact apy ⟨h1,dK,eS,ru,(by rw[rG];rfl),aa⟩
theorem arA(x:Node)(ag:x.outs.length<=8388608):av 273 [.agg x.e] [.one (B (aL x))]:=by
 cases h1:(x.kind==2) with
 | true=>
  have c2:=kf x.a 0 999;cases ax:(ap x.a 0 999) with
  | true=>
   cases aK:(x.b != 0) with
   | true=>
    rw[show aL x=false from by grind[aL,bP,bS,ap]];exact ao7 ⟨h1,c2,(by rw[ax];rfl),aK,aa⟩
   | false=>
    cases aV:(decide ((↑(x.outs.map a8).length:Int)>2)) with
    | true=>
     rw[show aL x=false from by grind[aL,bP,bS,ap]];exact ao8 ⟨h1,c2,(by rw[ax];rfl),aK,aV,aa⟩
    | false=>
     cases bw:(x.kind==8) with
     | true=>
      cases bX:(decide ((↑(x.outs.map a8).length:Int)>0)) with
      | true=>
       rw[show aL x=false from by grind[aL,bP,bS,ap]];exact ao9 ⟨h1,c2,(by rw[ax];rfl),aK,aV,bw,bX,aa⟩
      | false=>
       cases c8:((↑(x.outs.map a8).length:Int)==2) with
       | true=>
        obtain⟨Fe,rZ⟩:=cY (xs:=x.outs) (i:=0) (by grind[ap,az]);obtain⟨ER,GU⟩:=cY (xs:=x.outs) (i:=1) (by grind[ap,az]);cases hM:(Fe==ER) with
        | true=>
         rw[show aL x=false from by grind[aL,bP,bS,ap]];exact aqB ⟨h1,c2,(by rw[ax];rfl),aK,aV,bw,bX,c8,(by grind[ap,az]),(by grind[ap,az]),(bM a8 rZ),(by grind[ap,az]),(by grind[ap,az]),(bM a8 GU),hM,aa⟩
        | false=>
         rcases gI x ag with⟨cz,l⟩ | ⟨cz,l⟩
         ·skip
          rw[show aL x=false from by grind[aL,bP,bS,ap]];exact aqF ⟨h1,c2,(by rw[ax];rfl),aK,aV,bw,bX,c8,(by grind[ap,az]),(by grind[ap,az]),(bM a8 rZ),(by grind[ap,az]),(by grind[ap,az]),(bM a8 GU),hM,l,aa⟩
         skip
         rw[show aL x=true from by grind[aL,bP,bS,ap]];exact aqG ⟨h1,c2,(by rw[ax];rfl),aK,aV,bw,bX,c8,(by grind[ap,az]),(by grind[ap,az]),(bM a8 rZ),(by grind[ap,az]),(by grind[ap,az]),(bM a8 GU),hM,l,aa⟩
       | false=>
        rcases gI x ag with⟨cz,l⟩ | ⟨cz,l⟩
        ·skip
         rw[show aL x=false from by grind[aL,bP,bS,ap]];exact aqH ⟨h1,c2,(by rw[ax];rfl),aK,aV,bw,bX,c8,l,aa⟩
        skip
        rw[show aL x=true from by grind[aL,bP,bS,ap]];exact aqI ⟨h1,c2,(by rw[ax];rfl),aK,aV,bw,bX,c8,l,aa⟩
     | false=>
      cases j7:((↑(x.outs.map a8).length:Int)==2) with
      | true=>
       obtain⟨A8,G0⟩:=cY (xs:=x.outs) (i:=0) (by grind[ap,az]);obtain⟨A9,G1⟩:=cY (xs:=x.outs) (i:=1) (by grind[ap,az]);cases kH:(A8==A9) with
       | true=>
        rw[show aL x=false from by grind[aL,bP,bS,ap]];exact aqJ ⟨h1,c2,(by rw[ax];rfl),aK,aV,bw,j7,(by grind[ap,az]),(by grind[ap,az]),(bM a8 G0),(by grind[ap,az]),(by grind[ap,az]),(bM a8 G1),kH,aa⟩
       | false=>
        rcases gI x ag with⟨cz,l⟩ | ⟨cz,l⟩
        ·skip
         rw[show aL x=false from by grind[aL,bP,bS,ap]];exact aqK ⟨h1,c2,(by rw[ax];rfl),aK,aV,bw,j7,(by grind[ap,az]),(by grind[ap,az]),(bM a8 G0),(by grind[ap,az]),(by grind[ap,az]),(bM a8 G1),kH,l,aa⟩
        skip
        rw[show aL x=true from by grind[aL,bP,bS,ap]];exact aqL ⟨h1,c2,(by rw[ax];rfl),aK,aV,bw,j7,(by grind[ap,az]),(by grind[ap,az]),(bM a8 G0),(by grind[ap,az]),(by grind[ap,az]),(bM a8 G1),kH,l,aa⟩
      | false=>
       rcases gI x ag with⟨cz,l⟩ | ⟨cz,l⟩
       ·skip
        rw[show aL x=false from by grind[aL,bP,bS,ap]];exact aqM ⟨h1,c2,(by rw[ax];rfl),aK,aV,bw,j7,l,aa⟩
       skip
       rw[show aL x=true from by grind[aL,bP,bS,ap]];exact aqN ⟨h1,c2,(by rw[ax];rfl),aK,aV,bw,j7,l,aa⟩
  | false=>
   rw[show aL x=false from by grind[aL,bP,bS,ap]];exact ao6 ⟨h1,c2,(by rw[ax];rfl),aa⟩
 | false=>
  cases cy:(x.kind==3) with
  | true=>
   have mh:=kf x.a 1 10;cases gE:(ap x.a 1 10) with
   | true=>
    have jl:=kf x.b 0 (IntKind.i64.wrap (x.a-1));cases eS:(ap x.b 0 (IntKind.i64.wrap (x.a-1))) with
    | true=>
     cases oj:(decide ((↑(x.outs.map a8).length:Int)>2)) with
     | true=>
      rw[show aL x=false from by grind[aL,bP,bS,ap]];exact aqQ ⟨h1,cy,mh,(by rw[gE];rfl),jl,(by rw[eS];rfl),oj,aa⟩
     | false=>
      cases kI:(x.kind==8) with
      | true=>
       cases jo:(decide ((↑(x.outs.map a8).length:Int)>0)) with
       | true=>
        rw[show aL x=false from by grind[aL,bP,bS,ap]];exact aqR ⟨h1,cy,mh,(by rw[gE];rfl),jl,(by rw[eS];rfl),oj,kI,jo,aa⟩
       | false=>
        cases mq:((↑(x.outs.map a8).length:Int)==2) with
        | true=>
         obtain⟨EV,G2⟩:=cY (xs:=x.outs) (i:=0) (by grind[ap,az]);obtain⟨EW,G3⟩:=cY (xs:=x.outs) (i:=1) (by grind[ap,az]);cases rF:(EV==EW) with
         | true=>
          rw[show aL x=false from by grind[aL,bP,bS,ap]];exact aqS ⟨h1,cy,mh,(by rw[gE];rfl),jl,(by rw[eS];rfl),oj,kI,jo,mq,(by grind[ap,az]),(by grind[ap,az]),(bM a8 G2),(by grind[ap,az]),(by grind[ap,az]),(bM a8 G3),rF,aa⟩
         | false=>
          rcases gI x ag with⟨cz,l⟩ | ⟨cz,l⟩
          ·skip
           rw[show aL x=false from by grind[aL,bP,bS,ap]];exact aqT ⟨h1,cy,mh,(by rw[gE];rfl),jl,(by rw[eS];rfl),oj,kI,jo,mq,(by grind[ap,az]),(by grind[ap,az]),(bM a8 G2),(by grind[ap,az]),(by grind[ap,az]),(bM a8 G3),rF,l,aa⟩
          skip
          rw[show aL x=true from by grind[aL,bP,bS,ap]];exact aqU ⟨h1,cy,mh,(by rw[gE];rfl),jl,(by rw[eS];rfl),oj,kI,jo,mq,(by grind[ap,az]),(by grind[ap,az]),(bM a8 G2),(by grind[ap,az]),(by grind[ap,az]),(bM a8 G3),rF,l,aa⟩
        | false=>
         rcases gI x ag with⟨cz,l⟩ | ⟨cz,l⟩
         ·skip
          rw[show aL x=false from by grind[aL,bP,bS,ap]];exact aqV ⟨h1,cy,mh,(by rw[gE];rfl),jl,(by rw[eS];rfl),oj,kI,jo,mq,l,aa⟩
         skip
         rw[show aL x=true from by grind[aL,bP,bS,ap]];exact aqW ⟨h1,cy,mh,(by rw[gE];rfl),jl,(by rw[eS];rfl),oj,kI,jo,mq,l,aa⟩
      | false=>
       cases nm:((↑(x.outs.map a8).length:Int)==2) with
       | true=>
        obtain⟨Be,G4⟩:=cY (xs:=x.outs) (i:=0) (by grind[ap,az]);obtain⟨E7,G5⟩:=cY (xs:=x.outs) (i:=1) (by grind[ap,az]);cases om:(Be==E7) with
        | true=>
         rw[show aL x=false from by grind[aL,bP,bS,ap]];exact aqX ⟨h1,cy,mh,(by rw[gE];rfl),jl,(by rw[eS];rfl),oj,kI,nm,(by grind[ap,az]),(by grind[ap,az]),(bM a8 G4),(by grind[ap,az]),(by grind[ap,az]),(bM a8 G5),om,aa⟩
        | false=>
         rcases gI x ag with⟨cz,l⟩ | ⟨cz,l⟩
         ·skip
          rw[show aL x=false from by grind[aL,bP,bS,ap]];exact aqY ⟨h1,cy,mh,(by rw[gE];rfl),jl,(by rw[eS];rfl),oj,kI,nm,(by grind[ap,az]),(by grind[ap,az]),(bM a8 G4),(by grind[ap,az]),(by grind[ap,az]),(bM a8 G5),om,l,aa⟩
         skip
         rw[show aL x=true from by grind[aL,bP,bS,ap]];exact aqZ ⟨h1,cy,mh,(by rw[gE];rfl),jl,(by rw[eS];rfl),oj,kI,nm,(by grind[ap,az]),(by grind[ap,az]),(bM a8 G4),(by grind[ap,az]),(by grind[ap,az]),(bM a8 G5),om,l,aa⟩
       | false=>
        rcases gI x ag with⟨cz,l⟩ | ⟨cz,l⟩
        ·skip
         rw[show aL x=false from by grind[aL,bP,bS,ap]];exact aq0 ⟨h1,cy,mh,(by rw[gE];rfl),jl,(by rw[eS];rfl),oj,kI,nm,l,aa⟩
        skip
        rw[show aL x=true from by grind[aL,bP,bS,ap]];exact aqb ⟨h1,cy,mh,(by rw[gE];rfl),jl,(by rw[eS];rfl),oj,kI,nm,l,aa⟩
    | false=>
     rw[show aL x=false from by grind[aL,bP,bS,ap]];exact aqP ⟨h1,cy,mh,(by rw[gE];rfl),jl,(by rw[eS];rfl),aa⟩
   | false=>
    rw[show aL x=false from by grind[aL,bP,bS,ap]];exact aqO ⟨h1,cy,mh,(by rw[gE];rfl),aa⟩
  | false=>
   cases cP:(x.kind==4) with
   | true=>
    have mj:=kf x.a 0 99;cases jQ:(ap x.a 0 99) with
    | true=>
     cases kJ:(x.b != 0) with
     | true=>
      rw[show aL x=false from by grind[aL,bP,bS,ap]];exact aqd ⟨h1,cy,cP,mj,(by rw[jQ];rfl),kJ,aa⟩
     | false=>
      cases oo:(decide ((↑(x.outs.map a8).length:Int)>2)) with
      | true=>
       rw[show aL x=false from by grind[aL,bP,bS,ap]];exact aqe ⟨h1,cy,cP,mj,(by rw[jQ];rfl),kJ,oo,aa⟩
      | false=>
       cases pq:(x.kind==8) with
       | true=>
        cases wB:(decide ((↑(x.outs.map a8).length:Int)>0)) with
        | true=>
         rw[show aL x=false from by grind[aL,bP,bS,ap]];exact aqf ⟨h1,cy,cP,mj,(by rw[jQ];rfl),kJ,oo,pq,wB,aa⟩
        | false=>
         cases yv:((↑(x.outs.map a8).length:Int)==2) with
         | true=>
          obtain⟨asC,G6⟩:=cY (xs:=x.outs) (i:=0) (by grind[ap,az]);obtain⟨asD,G7⟩:=cY (xs:=x.outs) (i:=1) (by grind[ap,az]);cases FO:(asC==asD) with
          | true=>
           rw[show aL x=false from by grind[aL,bP,bS,ap]];exact aqg ⟨h1,cy,cP,mj,(by rw[jQ];rfl),kJ,oo,pq,wB,yv,(by grind[ap,az]),(by grind[ap,az]),(bM a8 G6),(by grind[ap,az]),(by grind[ap,az]),(bM a8 G7),FO,aa⟩
          | false=>
           rcases gI x ag with⟨cz,l⟩ | ⟨cz,l⟩
           ·skip
            rw[show aL x=false from by grind[aL,bP,bS,ap]];exact aqh ⟨h1,cy,cP,mj,(by rw[jQ];rfl),kJ,oo,pq,wB,yv,(by grind[ap,az]),(by grind[ap,az]),(bM a8 G6),(by grind[ap,az]),(by grind[ap,az]),(bM a8 G7),FO,l,aa⟩
           skip
           rw[show aL x=true from by grind[aL,bP,bS,ap]];exact aqi ⟨h1,cy,cP,mj,(by rw[jQ];rfl),kJ,oo,pq,wB,yv,(by grind[ap,az]),(by grind[ap,az]),(bM a8 G6),(by grind[ap,az]),(by grind[ap,az]),(bM a8 G7),FO,l,aa⟩
         | false=>
          rcases gI x ag with⟨cz,l⟩ | ⟨cz,l⟩
          ·skip
           rw[show aL x=false from by grind[aL,bP,bS,ap]];exact aqj ⟨h1,cy,cP,mj,(by rw[jQ];rfl),kJ,oo,pq,wB,yv,l,aa⟩
          skip
          rw[show aL x=true from by grind[aL,bP,bS,ap]];exact aqk ⟨h1,cy,cP,mj,(by rw[jQ];rfl),kJ,oo,pq,wB,yv,l,aa⟩
       | false=>
        cases yw:((↑(x.outs.map a8).length:Int)==2) with
        | true=>
         obtain⟨asE,G8⟩:=cY (xs:=x.outs) (i:=0) (by grind[ap,az]);obtain⟨asF,G9⟩:=cY (xs:=x.outs) (i:=1) (by grind[ap,az]);cases FP:(asE==asF) with
         | true=>
          rw[show aL x=false from by grind[aL,bP,bS,ap]];exact aql ⟨h1,cy,cP,mj,(by rw[jQ];rfl),kJ,oo,pq,yw,(by grind[ap,az]),(by grind[ap,az]),(bM a8 G8),(by grind[ap,az]),(by grind[ap,az]),(bM a8 G9),FP,aa⟩
         | false=>
          rcases gI x ag with⟨cz,l⟩ | ⟨cz,l⟩
          ·skip
           rw[show aL x=false from by grind[aL,bP,bS,ap]];exact aqm ⟨h1,cy,cP,mj,(by rw[jQ];rfl),kJ,oo,pq,yw,(by grind[ap,az]),(by grind[ap,az]),(bM a8 G8),(by grind[ap,az]),(by grind[ap,az]),(bM a8 G9),FP,l,aa⟩
          skip
          rw[show aL x=true from by grind[aL,bP,bS,ap]];exact aqn ⟨h1,cy,cP,mj,(by rw[jQ];rfl),kJ,oo,pq,yw,(by grind[ap,az]),(by grind[ap,az]),(bM a8 G8),(by grind[ap,az]),(by grind[ap,az]),(bM a8 G9),FP,l,aa⟩
        | false=>
         rcases gI x ag with⟨cz,l⟩ | ⟨cz,l⟩
         ·skip
          rw[show aL x=false from by grind[aL,bP,bS,ap]];exact aqo ⟨h1,cy,cP,mj,(by rw[jQ];rfl),kJ,oo,pq,yw,l,aa⟩
         skip
         rw[show aL x=true from by grind[aL,bP,bS,ap]];exact aqp ⟨h1,cy,cP,mj,(by rw[jQ];rfl),kJ,oo,pq,yw,l,aa⟩
    | false=>
     rw[show aL x=false from by grind[aL,bP,bS,ap]];exact aqc ⟨h1,cy,cP,mj,(by rw[jQ];rfl),aa⟩
   | false=>
    cases cZ:(x.kind==1) with
    | true=>
     cases mr:(x.a != 0) with
     | true=>
      rw[show aL x=false from by grind[aL,bP,bS,ap]];exact aqq ⟨h1,cy,cP,cZ,cZ,mr,aa⟩
     | false=>
      cases nn:(x.b != 0) with
      | true=>
       rw[show aL x=false from by grind[aL,bP,bS,ap]];exact aqr ⟨h1,cy,cP,cZ,cZ,mr,nn,aa⟩
      | false=>
       cases oq:(decide ((↑(x.outs.map a8).length:Int)>2)) with
       | true=>
        rw[show aL x=false from by grind[aL,bP,bS,ap]];exact aqs ⟨h1,cy,cP,cZ,cZ,mr,nn,oq,aa⟩
       | false=>
        cases pr:(x.kind==8) with
        | true=>
         cases wC:(decide ((↑(x.outs.map a8).length:Int)>0)) with
         | true=>
          rw[show aL x=false from by grind[aL,bP,bS,ap]];exact aqt ⟨h1,cy,cP,cZ,cZ,mr,nn,oq,pr,wC,aa⟩
         | false=>
          cases yx:((↑(x.outs.map a8).length:Int)==2) with
          | true=>
           obtain⟨asG,G'⟩:=cY (xs:=x.outs) (i:=0) (by grind[ap,az]);obtain⟨asH,Ha⟩:=cY (xs:=x.outs) (i:=1) (by grind[ap,az]);cases FQ:(asG==asH) with
           | true=>
            rw[show aL x=false from by grind[aL,bP,bS,ap]];exact aqu ⟨h1,cy,cP,cZ,cZ,mr,nn,oq,pr,wC,yx,(by grind[ap,az]),(by grind[ap,az]),(bM a8 G'),(by grind[ap,az]),(by grind[ap,az]),(bM a8 Ha),FQ,aa⟩
           | false=>
            rcases gI x ag with⟨cz,l⟩ | ⟨cz,l⟩
            ·skip
             rw[show aL x=false from by grind[aL,bP,bS,ap]];exact aqv ⟨h1,cy,cP,cZ,cZ,mr,nn,oq,pr,wC,yx,(by grind[ap,az]),(by grind[ap,az]),(bM a8 G'),(by grind[ap,az]),(by grind[ap,az]),(bM a8 Ha),FQ,l,aa⟩
            skip
            rw[show aL x=true from by grind[aL,bP,bS,ap]];exact aqw ⟨h1,cy,cP,cZ,cZ,mr,nn,oq,pr,wC,yx,(by grind[ap,az]),(by grind[ap,az]),(bM a8 G'),(by grind[ap,az]),(by grind[ap,az]),(bM a8 Ha),FQ,l,aa⟩
          | false=>
           rcases gI x ag with⟨cz,l⟩ | ⟨cz,l⟩
           ·skip
            rw[show aL x=false from by grind[aL,bP,bS,ap]];exact aqx ⟨h1,cy,cP,cZ,cZ,mr,nn,oq,pr,wC,yx,l,aa⟩
           skip
           rw[show aL x=true from by grind[aL,bP,bS,ap]];exact aqy ⟨h1,cy,cP,cZ,cZ,mr,nn,oq,pr,wC,yx,l,aa⟩
        | false=>
         cases yy:((↑(x.outs.map a8).length:Int)==2) with
         | true=>
          obtain⟨asI,Hb⟩:=cY (xs:=x.outs) (i:=0) (by grind[ap,az]);obtain⟨asJ,Hc⟩:=cY (xs:=x.outs) (i:=1) (by grind[ap,az]);cases FR:(asI==asJ) with
          | true=>
           rw[show aL x=false from by grind[aL,bP,bS,ap]];exact aqz ⟨h1,cy,cP,cZ,cZ,mr,nn,oq,pr,yy,(by grind[ap,az]),(by grind[ap,az]),(bM a8 Hb),(by grind[ap,az]),(by grind[ap,az]),(bM a8 Hc),FR,aa⟩
          | false=>
           rcases gI x ag with⟨cz,l⟩ | ⟨cz,l⟩
           ·skip
            rw[show aL x=false from by grind[aL,bP,bS,ap]];exact aqA ⟨h1,cy,cP,cZ,cZ,mr,nn,oq,pr,yy,(by grind[ap,az]),(by grind[ap,az]),(bM a8 Hb),(by grind[ap,az]),(by grind[ap,az]),(bM a8 Hc),FR,l,aa⟩
           skip
           rw[show aL x=true from by grind[aL,bP,bS,ap]];exact ap1 ⟨h1,cy,cP,cZ,cZ,mr,nn,oq,pr,yy,(by grind[ap,az]),(by grind[ap,az]),(bM a8 Hb),(by grind[ap,az]),(by grind[ap,az]),(bM a8 Hc),FR,l,aa⟩
         | false=>
          rcases gI x ag with⟨cz,l⟩ | ⟨cz,l⟩
          ·skip
           rw[show aL x=false from by grind[aL,bP,bS,ap]];exact ap2 ⟨h1,cy,cP,cZ,cZ,mr,nn,oq,pr,yy,l,aa⟩
          skip
          rw[show aL x=true from by grind[aL,bP,bS,ap]];exact ap3 ⟨h1,cy,cP,cZ,cZ,mr,nn,oq,pr,yy,l,aa⟩
    | false=>
     cases dv:(x.kind==5) with
     | true=>
      cases mu:(x.a != 0) with
      | true=>
       rw[show aL x=false from by grind[aL,bP,bS,ap]];exact ap4 ⟨h1,cy,cP,cZ,dv,dv,mu,aa⟩
      | false=>
       cases np:(x.b != 0) with
       | true=>
        rw[show aL x=false from by grind[aL,bP,bS,ap]];exact ap5 ⟨h1,cy,cP,cZ,dv,dv,mu,np,aa⟩
       | false=>
        cases kK:(decide ((↑(x.outs.map a8).length:Int)>2)) with
        | true=>
         rw[show aL x=false from by grind[aL,bP,bS,ap]];exact ap6 ⟨h1,cy,cP,cZ,dv,dv,mu,np,kK,aa⟩
        | false=>
         cases ps:(x.kind==8) with
         | true=>
          cases wD:(decide ((↑(x.outs.map a8).length:Int)>0)) with
          | true=>
           rw[show aL x=false from by grind[aL,bP,bS,ap]];exact ap7 ⟨h1,cy,cP,cZ,dv,dv,mu,np,kK,ps,wD,aa⟩
          | false=>
           cases yz:((↑(x.outs.map a8).length:Int)==2) with
           | true=>
            obtain⟨asK,Hd⟩:=cY (xs:=x.outs) (i:=0) (by grind[ap,az]);obtain⟨asL,He⟩:=cY (xs:=x.outs) (i:=1) (by grind[ap,az]);cases FT:(asK==asL) with
            | true=>
             rw[show aL x=false from by grind[aL,bP,bS,ap]];exact ap8 ⟨h1,cy,cP,cZ,dv,dv,mu,np,kK,ps,wD,yz,(by grind[ap,az]),(by grind[ap,az]),(bM a8 Hd),(by grind[ap,az]),(by grind[ap,az]),(bM a8 He),FT,aa⟩
            | false=>
             rcases gI x ag with⟨cz,l⟩ | ⟨cz,l⟩
             ·skip
              rw[show aL x=false from by grind[aL,bP,bS,ap]];exact ap9 ⟨h1,cy,cP,cZ,dv,dv,mu,np,kK,ps,wD,yz,(by grind[ap,az]),(by grind[ap,az]),(bM a8 Hd),(by grind[ap,az]),(by grind[ap,az]),(bM a8 He),FT,l,aa⟩
             skip
             rw[show aL x=true from by grind[aL,bP,bS,ap]];exact aqa ⟨h1,cy,cP,cZ,dv,dv,mu,np,kK,ps,wD,yz,(by grind[ap,az]),(by grind[ap,az]),(bM a8 Hd),(by grind[ap,az]),(by grind[ap,az]),(bM a8 He),FT,l,aa⟩
           | false=>
            rcases gI x ag with⟨cz,l⟩ | ⟨cz,l⟩
            ·skip
             rw[show aL x=false from by grind[aL,bP,bS,ap]];exact arE ⟨h1,cy,cP,cZ,dv,dv,mu,np,kK,ps,wD,yz,l,aa⟩
            skip
            rw[show aL x=true from by grind[aL,bP,bS,ap]];exact arF ⟨h1,cy,cP,cZ,dv,dv,mu,np,kK,ps,wD,yz,l,aa⟩
         | false=>
          cases yA:((↑(x.outs.map a8).length:Int)==2) with
          | true=>
           obtain⟨asM,Hf⟩:=cY (xs:=x.outs) (i:=0) (by grind[ap,az]);obtain⟨asN,Hg⟩:=cY (xs:=x.outs) (i:=1) (by grind[ap,az]);cases FU:(asM==asN) with
           | true=>
            rw[show aL x=false from by grind[aL,bP,bS,ap]];exact arG ⟨h1,cy,cP,cZ,dv,dv,mu,np,kK,ps,yA,(by grind[ap,az]),(by grind[ap,az]),(bM a8 Hf),(by grind[ap,az]),(by grind[ap,az]),(bM a8 Hg),FU,aa⟩
           | false=>
            rcases gI x ag with⟨cz,l⟩ | ⟨cz,l⟩
            ·skip
             rw[show aL x=false from by grind[aL,bP,bS,ap]];exact arH ⟨h1,cy,cP,cZ,dv,dv,mu,np,kK,ps,yA,(by grind[ap,az]),(by grind[ap,az]),(bM a8 Hf),(by grind[ap,az]),(by grind[ap,az]),(bM a8 Hg),FU,l,aa⟩
            skip
            rw[show aL x=true from by grind[aL,bP,bS,ap]];exact arI ⟨h1,cy,cP,cZ,dv,dv,mu,np,kK,ps,yA,(by grind[ap,az]),(by grind[ap,az]),(bM a8 Hf),(by grind[ap,az]),(by grind[ap,az]),(bM a8 Hg),FU,l,aa⟩
          | false=>
           rcases gI x ag with⟨cz,l⟩ | ⟨cz,l⟩
           ·skip
            rw[show aL x=false from by grind[aL,bP,bS,ap]];exact arJ ⟨h1,cy,cP,cZ,dv,dv,mu,np,kK,ps,yA,l,aa⟩
           skip
           rw[show aL x=true from by grind[aL,bP,bS,ap]];exact arK ⟨h1,cy,cP,cZ,dv,dv,mu,np,kK,ps,yA,l,aa⟩
     | false=>
      cases eg:(x.kind==6) with
      | true=>
       cases mv:(x.a != 0) with
       | true=>
        rw[show aL x=false from by grind[aL,bP,bS,ap]];exact arL ⟨h1,cy,cP,cZ,dv,eg,eg,mv,aa⟩
       | false=>
        cases nq:(x.b != 0) with
        | true=>
         rw[show aL x=false from by grind[aL,bP,bS,ap]];exact arM ⟨h1,cy,cP,cZ,dv,eg,eg,mv,nq,aa⟩
        | false=>
         cases ot:(decide ((↑(x.outs.map a8).length:Int)>2)) with
         | true=>
          rw[show aL x=false from by grind[aL,bP,bS,ap]];exact arN ⟨h1,cy,cP,cZ,dv,eg,eg,mv,nq,ot,aa⟩
         | false=>
          cases pt:(x.kind==8) with
          | true=>
           cases wE:(decide ((↑(x.outs.map a8).length:Int)>0)) with
           | true=>
            rw[show aL x=false from by grind[aL,bP,bS,ap]];exact arO ⟨h1,cy,cP,cZ,dv,eg,eg,mv,nq,ot,pt,wE,aa⟩
           | false=>
            cases yB:((↑(x.outs.map a8).length:Int)==2) with
            | true=>
             obtain⟨asO,Hh⟩:=cY (xs:=x.outs) (i:=0) (by grind[ap,az]);obtain⟨asP,Hi⟩:=cY (xs:=x.outs) (i:=1) (by grind[ap,az]);cases FV:(asO==asP) with
             | true=>
              rw[show aL x=false from by grind[aL,bP,bS,ap]];exact arP ⟨h1,cy,cP,cZ,dv,eg,eg,mv,nq,ot,pt,wE,yB,(by grind[ap,az]),(by grind[ap,az]),(bM a8 Hh),(by grind[ap,az]),(by grind[ap,az]),(bM a8 Hi),FV,aa⟩
             | false=>
              rcases gI x ag with⟨cz,l⟩ | ⟨cz,l⟩
              ·skip
               rw[show aL x=false from by grind[aL,bP,bS,ap]];exact arQ ⟨h1,cy,cP,cZ,dv,eg,eg,mv,nq,ot,pt,wE,yB,(by grind[ap,az]),(by grind[ap,az]),(bM a8 Hh),(by grind[ap,az]),(by grind[ap,az]),(bM a8 Hi),FV,l,aa⟩
              skip
              rw[show aL x=true from by grind[aL,bP,bS,ap]];exact arR ⟨h1,cy,cP,cZ,dv,eg,eg,mv,nq,ot,pt,wE,yB,(by grind[ap,az]),(by grind[ap,az]),(bM a8 Hh),(by grind[ap,az]),(by grind[ap,az]),(bM a8 Hi),FV,l,aa⟩
            | false=>
             rcases gI x ag with⟨cz,l⟩ | ⟨cz,l⟩
             ·skip
              rw[show aL x=false from by grind[aL,bP,bS,ap]];exact arS ⟨h1,cy,cP,cZ,dv,eg,eg,mv,nq,ot,pt,wE,yB,l,aa⟩
             skip
             rw[show aL x=true from by grind[aL,bP,bS,ap]];exact arT ⟨h1,cy,cP,cZ,dv,eg,eg,mv,nq,ot,pt,wE,yB,l,aa⟩
          | false=>
           cases yC:((↑(x.outs.map a8).length:Int)==2) with
           | true=>
            obtain⟨asQ,Hj⟩:=cY (xs:=x.outs) (i:=0) (by grind[ap,az]);obtain⟨asR,Hk⟩:=cY (xs:=x.outs) (i:=1) (by grind[ap,az]);cases FW:(asQ==asR) with
            | true=>
             rw[show aL x=false from by grind[aL,bP,bS,ap]];exact arU ⟨h1,cy,cP,cZ,dv,eg,eg,mv,nq,ot,pt,yC,(by grind[ap,az]),(by grind[ap,az]),(bM a8 Hj),(by grind[ap,az]),(by grind[ap,az]),(bM a8 Hk),FW,aa⟩
            | false=>
             rcases gI x ag with⟨cz,l⟩ | ⟨cz,l⟩
             ·skip
              rw[show aL x=false from by grind[aL,bP,bS,ap]];exact arV ⟨h1,cy,cP,cZ,dv,eg,eg,mv,nq,ot,pt,yC,(by grind[ap,az]),(by grind[ap,az]),(bM a8 Hj),(by grind[ap,az]),(by grind[ap,az]),(bM a8 Hk),FW,l,aa⟩
             skip
             rw[show aL x=true from by grind[aL,bP,bS,ap]];exact arW ⟨h1,cy,cP,cZ,dv,eg,eg,mv,nq,ot,pt,yC,(by grind[ap,az]),(by grind[ap,az]),(bM a8 Hj),(by grind[ap,az]),(by grind[ap,az]),(bM a8 Hk),FW,l,aa⟩
           | false=>
            rcases gI x ag with⟨cz,l⟩ | ⟨cz,l⟩
            ·skip
             rw[show aL x=false from by grind[aL,bP,bS,ap]];exact arX ⟨h1,cy,cP,cZ,dv,eg,eg,mv,nq,ot,pt,yC,l,aa⟩
            skip
            rw[show aL x=true from by grind[aL,bP,bS,ap]];exact arY ⟨h1,cy,cP,cZ,dv,eg,eg,mv,nq,ot,pt,yC,l,aa⟩
      | false=>
       cases fq:(x.kind==7) with
       | true=>
        cases mw:(x.a != 0) with
        | true=>
         rw[show aL x=false from by grind[aL,bP,bS,ap]];exact arZ ⟨h1,cy,cP,cZ,dv,eg,fq,fq,mw,aa⟩
        | false=>
         cases nr:(x.b != 0) with
         | true=>
          rw[show aL x=false from by grind[aL,bP,bS,ap]];exact ar0 ⟨h1,cy,cP,cZ,dv,eg,fq,fq,mw,nr,aa⟩
         | false=>
          cases ou:(decide ((↑(x.outs.map a8).length:Int)>2)) with
          | true=>
           rw[show aL x=false from by grind[aL,bP,bS,ap]];exact ar1 ⟨h1,cy,cP,cZ,dv,eg,fq,fq,mw,nr,ou,aa⟩
          | false=>
           cases pu:(x.kind==8) with
           | true=>
            cases wF:(decide ((↑(x.outs.map a8).length:Int)>0)) with
            | true=>
             rw[show aL x=false from by grind[aL,bP,bS,ap]];exact ar2 ⟨h1,cy,cP,cZ,dv,eg,fq,fq,mw,nr,ou,pu,wF,aa⟩
            | false=>
             cases yD:((↑(x.outs.map a8).length:Int)==2) with
             | true=>
              obtain⟨asS,Hl⟩:=cY (xs:=x.outs) (i:=0) (by grind[ap,az]);obtain⟨asT,Hm⟩:=cY (xs:=x.outs) (i:=1) (by grind[ap,az]);cases FX:(asS==asT) with
              | true=>
               rw[show aL x=false from by grind[aL,bP,bS,ap]];exact ar3 ⟨h1,cy,cP,cZ,dv,eg,fq,fq,mw,nr,ou,pu,wF,yD,(by grind[ap,az]),(by grind[ap,az]),(bM a8 Hl),(by grind[ap,az]),(by grind[ap,az]),(bM a8 Hm),FX,aa⟩
              | false=>
               rcases gI x ag with⟨cz,l⟩ | ⟨cz,l⟩
               ·skip
                rw[show aL x=false from by grind[aL,bP,bS,ap]];exact arb ⟨h1,cy,cP,cZ,dv,eg,fq,fq,mw,nr,ou,pu,wF,yD,(by grind[ap,az]),(by grind[ap,az]),(bM a8 Hl),(by grind[ap,az]),(by grind[ap,az]),(bM a8 Hm),FX,l,aa⟩
               skip
               rw[show aL x=true from by grind[aL,bP,bS,ap]];exact arc ⟨h1,cy,cP,cZ,dv,eg,fq,fq,mw,nr,ou,pu,wF,yD,(by grind[ap,az]),(by grind[ap,az]),(bM a8 Hl),(by grind[ap,az]),(by grind[ap,az]),(bM a8 Hm),FX,l,aa⟩
             | false=>
              rcases gI x ag with⟨cz,l⟩ | ⟨cz,l⟩
              ·skip
               rw[show aL x=false from by grind[aL,bP,bS,ap]];exact ard ⟨h1,cy,cP,cZ,dv,eg,fq,fq,mw,nr,ou,pu,wF,yD,l,aa⟩
              skip
              rw[show aL x=true from by grind[aL,bP,bS,ap]];exact arf ⟨h1,cy,cP,cZ,dv,eg,fq,fq,mw,nr,ou,pu,wF,yD,l,aa⟩
           | false=>
            cases yE:((↑(x.outs.map a8).length:Int)==2) with
            | true=>
             obtain⟨asy,GV⟩:=cY (xs:=x.outs) (i:=0) (by grind[ap,az]);obtain⟨asz,GX⟩:=cY (xs:=x.outs) (i:=1) (by grind[ap,az]);cases FL:(asy==asz) with
             | true=>
              rw[show aL x=false from by grind[aL,bP,bS,ap]];exact arh ⟨h1,cy,cP,cZ,dv,eg,fq,fq,mw,nr,ou,pu,yE,(by grind[ap,az]),(by grind[ap,az]),(bM a8 GV),(by grind[ap,az]),(by grind[ap,az]),(bM a8 GX),FL,aa⟩
             | false=>
              rcases gI x ag with⟨cz,l⟩ | ⟨cz,l⟩
              ·skip
               rw[show aL x=false from by grind[aL,bP,bS,ap]];exact ari ⟨h1,cy,cP,cZ,dv,eg,fq,fq,mw,nr,ou,pu,yE,(by grind[ap,az]),(by grind[ap,az]),(bM a8 GV),(by grind[ap,az]),(by grind[ap,az]),(bM a8 GX),FL,l,aa⟩
              skip
              rw[show aL x=true from by grind[aL,bP,bS,ap]];exact arj ⟨h1,cy,cP,cZ,dv,eg,fq,fq,mw,nr,ou,pu,yE,(by grind[ap,az]),(by grind[ap,az]),(bM a8 GV),(by grind[ap,az]),(by grind[ap,az]),(bM a8 GX),FL,l,aa⟩
            | false=>
             rcases gI x ag with⟨cz,l⟩ | ⟨cz,l⟩
             ·skip
              rw[show aL x=false from by grind[aL,bP,bS,ap]];exact ark ⟨h1,cy,cP,cZ,dv,eg,fq,fq,mw,nr,ou,pu,yE,l,aa⟩
             skip
             rw[show aL x=true from by grind[aL,bP,bS,ap]];exact arl ⟨h1,cy,cP,cZ,dv,eg,fq,fq,mw,nr,ou,pu,yE,l,aa⟩
       | false=>
        cases k8:(x.kind==8) with
        | true=>
         cases rE:(x.a != 0) with
         | true=>
          rw[show aL x=false from by grind[aL,bP,bS,ap]];exact arm ⟨h1,cy,cP,cZ,dv,eg,fq,k8,rE,aa⟩
         | false=>
          cases sS:(x.b != 0) with
          | true=>
           rw[show aL x=false from by grind[aL,bP,bS,ap]];exact arn ⟨h1,cy,cP,cZ,dv,eg,fq,k8,rE,sS,aa⟩
          | false=>
           cases uO:(decide ((↑(x.outs.map a8).length:Int)>2)) with
           | true=>
            rw[show aL x=false from by grind[aL,bP,bS,ap]];exact aro ⟨h1,cy,cP,cZ,dv,eg,fq,k8,rE,sS,uO,aa⟩
           | false=>
            cases wz:(decide ((↑(x.outs.map a8).length:Int)>0)) with
            | true=>
             rw[show aL x=false from by grind[aL,bP,bS,ap]];exact arp ⟨h1,cy,cP,cZ,dv,eg,fq,k8,rE,sS,uO,k8,wz,aa⟩
            | false=>
             cases yt:((↑(x.outs.map a8).length:Int)==2) with
             | true=>
              obtain⟨asA,GY⟩:=cY (xs:=x.outs) (i:=0) (by grind[ap,az]);obtain⟨asB,GZ⟩:=cY (xs:=x.outs) (i:=1) (by grind[ap,az]);cases FM:(asA==asB) with
              | true=>
               rw[show aL x=false from by grind[aL,bP,bS,ap]];exact arq ⟨h1,cy,cP,cZ,dv,eg,fq,k8,rE,sS,uO,k8,wz,yt,(by grind[ap,az]),(by grind[ap,az]),(bM a8 GY),(by grind[ap,az]),(by grind[ap,az]),(bM a8 GZ),FM,aa⟩
              | false=>
               rcases gI x ag with⟨cz,l⟩ | ⟨cz,l⟩
               ·skip
                rw[show aL x=false from by grind[aL,bP,bS,ap]];exact ars ⟨h1,cy,cP,cZ,dv,eg,fq,k8,rE,sS,uO,k8,wz,yt,(by grind[ap,az]),(by grind[ap,az]),(bM a8 GY),(by grind[ap,az]),(by grind[ap,az]),(bM a8 GZ),FM,l,aa⟩
               skip
               rw[show aL x=true from by grind[aL,bP,bS,ap]];exact art ⟨h1,cy,cP,cZ,dv,eg,fq,k8,rE,sS,uO,k8,wz,yt,(by grind[ap,az]),(by grind[ap,az]),(bM a8 GY),(by grind[ap,az]),(by grind[ap,az]),(bM a8 GZ),FM,l,aa⟩
             | false=>
              rcases gI x ag with⟨cz,l⟩ | ⟨cz,l⟩
              ·skip
               rw[show aL x=false from by grind[aL,bP,bS,ap]];exact aru ⟨h1,cy,cP,cZ,dv,eg,fq,k8,rE,sS,uO,k8,wz,yt,l,aa⟩
              skip
              rw[show aL x=true from by grind[aL,bP,bS,ap]];exact arv ⟨h1,cy,cP,cZ,dv,eg,fq,k8,rE,sS,uO,k8,wz,yt,l,aa⟩
        | false=>
         rw[show aL x=false from by grind[aL,bP,bS,ap]];exact arw ⟨h1,cy,cP,cZ,dv,eg,fq,k8,aa⟩
